import PyProof.Rows.All
import Wide.All
import OpenK.AllK
import Wide.FinOn
import HandS.ForMost
import HandS.Evl
import HandS.Conv
import HandS.Deep
import HandS.Flow
import HandS.Style
import HandS.IsInst
import HandS.Zip
import HandS.More
import KE.KDictKeyed
import KE.DataFind
import PySem.Challenge.RW_arrowhall_k09_readings_looked_at
set_option Elab.async false
set_option linter.all false
set_option maxRecDepth 100000
set_option maxHeartbeats 4000000
/-! DBase1: data trees over the abstract heap, ownership, environments, expressions. -/
namespace DL
open PySem L2
/-- what B knows stands in H: the library's Evl.Ex, in a form that may be applied -/
abbrev Ex (B H : Hp) : Prop := ∀ p u, B p = some u → H p = some u
section
variable {B H J : Hp} {p : Addr} {u : HO}
theorem Ex.refl (B : Hp) : Ex B B := Evl.Ex.refl B
theorem Ex.trans (k : Ex B H) (l : Ex H J) : Ex B J := Evl.Ex.trans k l
theorem Ex.new (n : B p = none) : Ex B (upd B p u) := Evl.Ex.new n
theorem Ex.back (k : Ex B H) (n : H p = none) : B p = none := Evl.fresh_back k n
theorem Ex.mut (k : Ex B H) (n : B p = none) : Ex B (upd H p u) := Evl.Ex.mut k n
end

/-- data trees -/
inductive D where
  | non
  | bl (b : Bool)
  | int (i : Int)
  | lst (xs : List D)
  | tup (xs : List D)
  | obj (xs : List D)
  | dic (kvs : List (NestedKey × V))
  | scr (ns : List Int)
  | fix (d : D)
  | raw (v : V)

/-- what the program's one class is, and whose model -/
structure Cfg where
  P : Program
  w : World
  K : PySem.W.Frag
  C : Addr

/-! ### data as the model's data, as keys -/
mutual
def D.data : D → PyData
  | .non => .none
  | .bl b => .bool b
  | .int i => .int i
  | .lst xs => .list (D.datas xs)
  | .tup xs => .tuple (D.datas xs)
  | .obj _ => .none
  | .dic _ => .none
  | .scr _ => .none
  | .fix _ => .none
  | .raw _ => .none
def D.datas : List D → List PyData
  | [] => []
  | x :: xs => D.data x :: D.datas xs
end
/- neither an instance nor a dict within -/
mutual
def D.pl : D → Bool
  | .non => true
  | .bl _ => true
  | .int _ => true
  | .lst xs => D.pls xs
  | .tup xs => D.pls xs
  | .obj _ => false
  | .dic _ => false
  | .scr _ => false
  | .fix _ => false
  | .raw _ => false
def D.pls : List D → Bool
  | [] => true
  | x :: xs => D.pl x && D.pls xs
end
mutual
def D.key : D → NestedKey
  | .int i => .num i
  | .tup xs => .tup (D.keys xs)
  | .non => .none
  | .bl _ => .none
  | .lst _ => .none
  | .obj _ => .none
  | .dic _ => .none
  | .scr _ => .none
  | .fix _ => .none
  | .raw _ => .none
def D.keys : List D → List NestedKey
  | [] => []
  | x :: xs => D.key x :: D.keys xs
end
mutual
def D.kok : D → Bool
  | .int _ => true
  | .tup xs => D.koks xs
  | .non => false
  | .bl _ => false
  | .lst _ => false
  | .obj _ => false
  | .dic _ => false
  | .scr _ => false
  | .fix _ => false
  | .raw _ => false
def D.koks : List D → Bool
  | [] => true
  | x :: xs => D.kok x && D.koks xs
end

/-- a tuple that may be a key -/
def D.ktop : D → Bool
  | .tup xs => D.koks xs && decide ((D.key (.tup xs)).depth ≤ 8)
  | _ => false

/-! ### dicts with nested keys, as an object of the abstract heap -/
def DnOk (P : Program) (w : World) (a : Addr) (xs : List (NestedKey × Addr × V)) (h : Heap) : Prop :=
  xs.length ≤ sizeLine ∧ (a == sysModules) = false ∧ ∃ ys : List (NestedKey × Addr × Value),
    Paired (fun (p : NestedKey × Addr × V) (q : NestedKey × Addr × Value) => p.1 = q.1 ∧ p.2.1 = q.2.1 ∧ RelV p.2.2 q.2.2) xs ys ∧
    ∃ o es ep, h.get? a = some o ∧ o.ExactDict ∧ o.data = .dict es ep ∧ es.toList = ys.map (entryOfKey (nestedKind P w)) ∧ (ys.map (·.1)).Nodup
def dnO (P : Program) (w : World) (a : Addr) (xs : List (NestedKey × Addr × V)) : HO := .ext (DnOk P w a xs)

/-! ### the tree d stands at v -/
mutual
inductive DR (c : Cfg) (H : Hp) : V → D → Prop
  | non : DR c H .non .non
  | bl (b : Bool) : DR c H (.bl b) (.bl b)
  | int (i : Int) : DR c H (.int i) (.int i)
  | lst {a : Addr} {vs : List V} {ds : List D} : H a = some (.lst vs) → DRs c H vs ds → DR c H (.ref a) (.lst ds)
  | tup {a : Addr} {vs : List V} {ds : List D} : H a = some (.tup vs) → DRs c H vs ds → DR c H (.ref a) (.tup ds)
  | scr {a : Addr} {ns : List Int} : SqL c.K H a (ns.map V.int) → DR c H (.ref a) (.scr ns)
  | fix {v : V} {d : D} : DR c H v d → DR c H v (.fix d)
  | raw (v : V) : DR c H v (.raw v)
  | obj {a dx : Addr} {fs : List (Str × V)} {v1 v2 v3 : V} {d1 d2 d3 : D} : H a = some (.ins c.C dx fs) → fs.lookup ("ends" : Str) = some v1 → fs.lookup ("rests" : Str) = some v2 → fs.lookup ("table" : Str) = some v3 →
      DR c H v1 d1 → DR c H v2 d2 → DR c H v3 d3 → DR c H (.ref a) (.obj [d1, d2, d3])
  | dic {a : Addr} {xs : List (NestedKey × Addr × V)} {ds : List D} : H a = some (dnO c.P c.w a xs) → DRs c H (xs.map fun x => V.ref x.2.1) ds → xs.map (·.1) = ds.map D.key → ds.all D.ktop = true → DR c H (.ref a) (.dic (xs.map fun x => (x.1, x.2.2)))
inductive DRs (c : Cfg) (H : Hp) : List V → List D → Prop
  | nil : DRs c H [] []
  | cons {v : V} {vs : List V} {d : D} {ds : List D} : DR c H v d → DRs c H vs ds → DRs c H (v :: vs) (d :: ds)
end

theorem sq_ex {K : PySem.W.Frag} {H H' : Hp} {a : Addr} {xs : List V} (e : Ex H H') (h : SqL K H a xs) : SqL K H' a xs := Evl.ex_l e h
theorem st_ex {K : PySem.W.Frag} {H H' : Hp} {a : Addr} {xs : List V} (e : Ex H H') (h : SqT K H a xs) : SqT K H' a xs := Evl.ex_t e h
mutual
theorem DR.mono {c : Cfg} {H H' : Hp} (e : Ex H H') : ∀ {v : V} {d : D}, DR c H v d → DR c H' v d
  | _, _, .non => .non
  | _, _, .bl b => .bl b
  | _, _, .int i => .int i
  | _, _, .lst h hs => .lst (e _ _ h) (DRs.mono e hs)
  | _, _, .tup h hs => .tup (e _ _ h) (DRs.mono e hs)
  | _, _, .scr h => .scr (sq_ex e h)
  | _, _, .fix h => .fix (DR.mono e h)
  | _, _, .raw v => .raw v
  | _, _, .obj h l1 l2 l3 h1 h2 h3 => .obj (e _ _ h) l1 l2 l3 (DR.mono e h1) (DR.mono e h2) (DR.mono e h3)
  | _, _, .dic h hs hk ho => .dic (e _ _ h) (DRs.mono e hs) hk ho
theorem DRs.mono {c : Cfg} {H H' : Hp} (e : Ex H H') : ∀ {vs : List V} {ds : List D}, DRs c H vs ds → DRs c H' vs ds
  | _, _, .nil => .nil
  | _, _, .cons h hs => .cons (DR.mono e h) (DRs.mono e hs)
end
section
variable {c : Cfg} {H : Hp}
theorem DRs.length : ∀ {vs : List V} {ds : List D}, DRs c H vs ds → vs.length = ds.length
  | _, _, .nil => rfl
  | _, _, .cons _ hs => by rw [List.length_cons, List.length_cons, DRs.length hs]
/-- row by row: as many, and each one of its own -/
theorem drs_iff {ds : List D} : ∀ {vs : List V}, DRs c H vs ds ↔ vs.length = ds.length ∧ ∀ (k : Nat) (v : V) (d : D), vs[k]? = some v → ds[k]? = some d → DR c H v d := by
  induction ds with
  | nil =>
    intro vs
    refine ⟨fun r => ⟨r.length, fun k _ _ _ z => by simp at z⟩, fun z => ?_⟩
    rw [List.eq_nil_of_length_eq_zero z.1]
    exact .nil
  | cons d ds ih =>
    intro vs
    constructor
    · intro r
      refine ⟨r.length, fun k v' d' z1 z2 => ?_⟩
      cases r with
      | cons r1 r2 =>
        cases k with
        | zero => cases z1; cases z2; exact r1
        | succ k => exact (ih.mp r2).2 k v' d' z1 z2
    · rintro ⟨l, z⟩
      cases vs with
      | nil => cases l
      | cons v vs => exact .cons (z 0 v d rfl rfl) (ih.mpr ⟨Nat.succ.inj l, fun k v' d' => z (k + 1) v' d'⟩)
theorem DRs.get {vs : List V} {ds : List D} {i : Nat} {d : D} (r : DRs c H vs ds) (z : ds[i]? = some d) : ∃ v, vs[i]? = some v ∧ DR c H v d := by
  have l : i < vs.length := r.length ▸ (List.getElem?_eq_some_iff.mp z).1
  exact ⟨vs[i], List.getElem?_eq_getElem l, (drs_iff.mp r).2 i _ _ (List.getElem?_eq_getElem l) z⟩
theorem DRs.getV {vs : List V} {ds : List D} {i : Nat} {v : V} (r : DRs c H vs ds) (z : vs[i]? = some v) : ∃ d, ds[i]? = some d ∧ DR c H v d := by
  have l : i < ds.length := r.length ▸ (List.getElem?_eq_some_iff.mp z).1
  exact ⟨ds[i], List.getElem?_eq_getElem l, (drs_iff.mp r).2 i _ _ z (List.getElem?_eq_getElem l)⟩
theorem DRs.append {vs ws : List V} {ds es : List D} (r : DRs c H vs ds) (s : DRs c H ws es) : DRs c H (vs ++ ws) (ds ++ es) := by
  induction vs generalizing ds with
  | nil => cases r; exact s
  | cons v vs ih =>
    cases r with
    | cons r1 r2 => exact .cons r1 (ih r2)
theorem DRs.take {vs : List V} {ds : List D} (n : Nat) (r : DRs c H vs ds) : DRs c H (vs.take n) (ds.take n) := by
  refine drs_iff.mpr ⟨by rw [List.length_take, List.length_take, r.length], fun k v d z1 z2 => ?_⟩
  rw [List.getElem?_take] at z1 z2
  split at z1
  · rename_i l
    rw [if_pos l] at z2
    exact (drs_iff.mp r).2 k v d z1 z2
  · exact nomatch z1
theorem DRs.drop {vs : List V} {ds : List D} (n : Nat) (r : DRs c H vs ds) : DRs c H (vs.drop n) (ds.drop n) := by
  refine drs_iff.mpr ⟨by rw [List.length_drop, List.length_drop, r.length], fun k v d z1 z2 => ?_⟩
  rw [List.getElem?_drop] at z1 z2
  exact (drs_iff.mp r).2 _ v d z1 z2
theorem DRs.set {v : V} {d : D} (q : DR c H v d) {vs : List V} {ds : List D} (i : Nat) (r : DRs c H vs ds) : DRs c H (vs.set i v) (ds.set i d) := by
  refine drs_iff.mpr ⟨by rw [List.length_set, List.length_set, r.length], fun k v' d' z1 z2 => ?_⟩
  rw [List.getElem?_set] at z1 z2
  split at z1
  · rename_i l
    rw [if_pos l] at z2
    split at z1
    · split at z2
      · cases z1; cases z2; exact q
      · exact nomatch z2
    · exact nomatch z1
  · rename_i l
    rw [if_neg l] at z2
    exact (drs_iff.mp r).2 k v' d' z1 z2
theorem DR.int_inv {v : V} {i : Int} (h : DR c H v (.int i)) : v = .int i := by cases h; rfl
theorem DR.bl_inv {v : V} {b : Bool} (h : DR c H v (.bl b)) : v = .bl b := by cases h; rfl
theorem DR.non_inv {v : V} (h : DR c H v .non) : v = .non := by cases h; rfl
theorem DR.lst_inv {v : V} {ds : List D} (h : DR c H v (.lst ds)) : ∃ a vs, v = .ref a ∧ H a = some (.lst vs) ∧ DRs c H vs ds := by cases h with | lst h hs => exact ⟨_, _, rfl, h, hs⟩
theorem DR.tup_inv {v : V} {ds : List D} (h : DR c H v (.tup ds)) : ∃ a vs, v = .ref a ∧ H a = some (.tup vs) ∧ DRs c H vs ds := by cases h with | tup h hs => exact ⟨_, _, rfl, h, hs⟩
theorem DRs.ints : ∀ {vs : List V} {ns : List Int}, DRs c H vs (ns.map D.int) → vs = ns.map V.int
  | _, [], h => by cases h; rfl
  | _, n :: ns, h => by
    cases h with
    | cons h hs =>
      rw [DR.int_inv h, DRs.ints hs]
      rfl
theorem DRs.of_ints : ∀ (ns : List Int), DRs c H (ns.map V.int) (ns.map D.int)
  | [] => .nil
  | n :: ns => .cons (.int n) (DRs.of_ints ns)
end
mutual
theorem DR.dp {c : Cfg} {H : Hp} : ∀ {v : V} {d : D}, DR c H v d → D.pl d = true → Dp c.K H v d.data
  | _, _, .non, _ => by rw [D.data]; exact .non
  | _, _, .bl b, _ => by rw [D.data]; exact .bl b
  | _, _, .int i, _ => by rw [D.data]; exact .int i
  | _, _, .lst h hs, e => by rw [D.data]; rw [D.pl] at e; exact .lst (.of h) (DRs.dp hs e)
  | _, _, .tup h hs, e => by rw [D.data]; rw [D.pl] at e; exact .tup (.of h) (DRs.dp hs e)
  | _, _, .obj _ _ _ _ _ _ _, e => by rw [D.pl] at e; cases e
  | _, _, .dic _ _ _ _, e => by rw [D.pl] at e; cases e
  | _, _, .scr _, e => by rw [D.pl] at e; cases e
  | _, _, .fix _, e => by rw [D.pl] at e; cases e
  | _, _, .raw _, e => by rw [D.pl] at e; cases e
theorem DRs.dp {c : Cfg} {H : Hp} : ∀ {vs : List V} {ds : List D}, DRs c H vs ds → D.pls ds = true → DpAll c.K H vs (D.datas ds)
  | _, _, .nil, _ => by rw [D.datas]; exact .nil
  | _, _, .cons h hs, e => by
    rw [D.datas]
    rw [D.pls, Bool.and_eq_true] at e
    exact .cons (DR.dp h e.1) (DRs.dp hs e.2)
end

/-! ### ownership: to depth n the tree's objects are the frame's own, S are their places; below it stands in B -/
def OwnL (p : (Addr → Prop) → V → D → Prop) : (Addr → Prop) → List V → List D → Prop
  | S, [], [] => ∀ a, ¬ S a
  | S, v :: vs, d :: ds => ∃ S1 S2, p S1 v d ∧ OwnL p S2 vs ds ∧ (∀ a, S1 a → ¬ S2 a) ∧ (∀ a, S a ↔ S1 a ∨ S2 a)
  | _, [], _ :: _ => False
  | _, _ :: _, [] => False
def Own (c : Cfg) (B H : Hp) : Nat → (Addr → Prop) → V → D → Prop
  | 0, S, v, d => (∀ a, ¬ S a) ∧ DR c B v d
  | n + 1, S, v, .lst ds => ∃ a vs S1, v = .ref a ∧ H a = some (.lst vs) ∧ B a = none ∧ OwnL (Own c B H n) S1 vs ds ∧ ¬ S1 a ∧ ∀ b, S b ↔ b = a ∨ S1 b
  | n + 1, S, v, .tup ds => ∃ a vs S1, v = .ref a ∧ H a = some (.tup vs) ∧ B a = none ∧ OwnL (Own c B H n) S1 vs ds ∧ ¬ S1 a ∧ ∀ b, S b ↔ b = a ∨ S1 b
  | _ + 1, S, v, .dic kvs => ∃ a xs ds, v = .ref a ∧ H a = some (dnO c.P c.w a xs) ∧ B a = none ∧ DRs c B (xs.map fun x => V.ref x.2.1) ds ∧ xs.map (·.1) = ds.map D.key ∧ ds.all D.ktop = true ∧ kvs = (xs.map fun x => (x.1, x.2.2)) ∧ ∀ b, S b ↔ b = a
  | _ + 1, S, v, .non => (∀ a, ¬ S a) ∧ v = .non
  | _ + 1, S, v, .bl b => (∀ a, ¬ S a) ∧ v = .bl b
  | _ + 1, S, v, .int i => (∀ a, ¬ S a) ∧ v = .int i
  | _ + 1, S, v, .obj ds => (∀ a, ¬ S a) ∧ DR c B v (.obj ds)
  | _ + 1, S, v, .scr ns => (∀ a, ¬ S a) ∧ DR c B v (.scr ns)
  | _ + 1, S, v, .fix d => (∀ a, ¬ S a) ∧ DR c B v (.fix d)
  | _ + 1, S, v, .raw u => (∀ a, ¬ S a) ∧ DR c B v (.raw u)

theorem OwnL.imp {p q : (Addr → Prop) → V → D → Prop} : ∀ {S : Addr → Prop} {vs : List V} {ds : List D}, (∀ S1 v d, (∀ a, S1 a → S a) → p S1 v d → q S1 v d) → OwnL p S vs ds → OwnL q S vs ds
  | _, [], [], _, h => h
  | _, _ :: _, _ :: _, f, ⟨S1, S2, h1, h2, h3, h4⟩ => ⟨S1, S2, f _ _ _ (fun a z => (h4 a).mpr (.inl z)) h1, OwnL.imp (fun S3 v d z => f S3 v d fun a y => (h4 a).mpr (.inr (z a y))) h2, h3, h4⟩
  | _, [], _ :: _, _, h => h
  | _, _ :: _, [], _, h => h
theorem Own.frame {c : Cfg} {B B' H H' : Hp} (hB : Ex B B') : ∀ {n : Nat} {S : Addr → Prop} {v : V} {d : D}, (∀ a, S a → B' a = none) → (∀ a o, S a → H a = some o → H' a = some o) → Own c B H n S v d → Own c B' H' n S v d
  | 0, _, _, _, _, _, ⟨h1, h2⟩ => ⟨h1, h2.mono hB⟩
  | n + 1, S, v, .lst ds, f, g, ⟨a, vs, S1, e, h, _, hl, h1, h2⟩ => ⟨a, vs, S1, e, g a _ ((h2 a).mpr (.inl rfl)) h, f a ((h2 a).mpr (.inl rfl)), OwnL.imp (fun S3 _ _ z y => Own.frame hB (fun b q => f b ((h2 b).mpr (.inr (z b q)))) (fun b o q => g b o ((h2 b).mpr (.inr (z b q)))) y) hl, h1, h2⟩
  | n + 1, S, v, .tup ds, f, g, ⟨a, vs, S1, e, h, _, hl, h1, h2⟩ => ⟨a, vs, S1, e, g a _ ((h2 a).mpr (.inl rfl)) h, f a ((h2 a).mpr (.inl rfl)), OwnL.imp (fun S3 _ _ z y => Own.frame hB (fun b q => f b ((h2 b).mpr (.inr (z b q)))) (fun b o q => g b o ((h2 b).mpr (.inr (z b q)))) y) hl, h1, h2⟩
  | n + 1, S, v, .dic kvs, f, g, ⟨a, xs, ds, e, h, _, hs, h1, h2, h3, h4⟩ => ⟨a, xs, ds, e, g a _ ((h4 a).mpr rfl) h, f a ((h4 a).mpr rfl), hs.mono hB, h1, h2, h3, h4⟩
  | _ + 1, _, _, .non, _, _, h => h
  | _ + 1, _, _, .bl _, _, _, h => h
  | _ + 1, _, _, .int _, _, _, h => h
  | _ + 1, _, _, .obj _, _, _, ⟨h1, h2⟩ => ⟨h1, h2.mono hB⟩
  | _ + 1, _, _, .scr _, _, _, ⟨h1, h2⟩ => ⟨h1, h2.mono hB⟩
  | _ + 1, _, _, .fix _, _, _, ⟨h1, h2⟩ => ⟨h1, h2.mono hB⟩
  | _ + 1, _, _, .raw _, _, _, ⟨h1, h2⟩ => ⟨h1, h2.mono hB⟩
theorem OwnL.there {p : (Addr → Prop) → V → D → Prop} {R : Addr → Prop} (hp : ∀ S v d, p S v d → ∀ a, S a → R a) : ∀ {S : Addr → Prop} {vs : List V} {ds : List D}, OwnL p S vs ds → ∀ a, S a → R a
  | _, [], [], h, a, z => (h a z).elim
  | _, _ :: _, _ :: _, ⟨S1, S2, h1, h2, _, h4⟩, a, z => ((h4 a).mp z).elim (hp _ _ _ h1 a) (OwnL.there hp h2 a)
  | _, [], _ :: _, h, _, _ => h.elim
  | _, _ :: _, [], h, _, _ => h.elim
theorem Own.there {c : Cfg} {B H : Hp} : ∀ {n : Nat} {S : Addr → Prop} {v : V} {d : D}, Own c B H n S v d → ∀ a, S a → B a = none ∧ ∃ o, H a = some o
  | 0, _, _, _, ⟨h1, _⟩, a, z => (h1 a z).elim
  | n + 1, S, v, .lst ds, ⟨b, vs, S1, e, h, hb, hl, h1, h2⟩, a, z => by
    rcases (h2 a).mp z with q | q
    · subst q; exact ⟨hb, _, h⟩
    · exact OwnL.there (R := fun a => B a = none ∧ ∃ o, H a = some o) (fun _ _ _ y => Own.there y) hl a q
  | n + 1, S, v, .tup ds, ⟨b, vs, S1, e, h, hb, hl, h1, h2⟩, a, z => by
    rcases (h2 a).mp z with q | q
    · subst q; exact ⟨hb, _, h⟩
    · exact OwnL.there (R := fun a => B a = none ∧ ∃ o, H a = some o) (fun _ _ _ y => Own.there y) hl a q
  | n + 1, S, v, .dic kvs, ⟨b, xs, ds, e, h, hb, _, _, _, _, h4⟩, a, z => by
    have q := (h4 a).mp z
    subst q
    exact ⟨hb, _, h⟩
  | _ + 1, _, _, .non, h, a, z => (h.1 a z).elim
  | _ + 1, _, _, .bl _, h, a, z => (h.1 a z).elim
  | _ + 1, _, _, .int _, h, a, z => (h.1 a z).elim
  | _ + 1, _, _, .obj _, h, a, z => (h.1 a z).elim
  | _ + 1, _, _, .scr _, h, a, z => (h.1 a z).elim
  | _ + 1, _, _, .fix _, h, a, z => (h.1 a z).elim
  | _ + 1, _, _, .raw _, h, a, z => (h.1 a z).elim
theorem OwnL.drs {c : Cfg} {B' : Hp} {p : (Addr → Prop) → V → D → Prop} : ∀ {S : Addr → Prop} {vs : List V} {ds : List D}, (∀ S1 v d, (∀ a, S1 a → S a) → p S1 v d → DR c B' v d) → OwnL p S vs ds → DRs c B' vs ds
  | _, [], [], _, _ => .nil
  | _, _ :: _, _ :: _, f, ⟨S1, S2, h1, h2, _, h4⟩ => .cons (f _ _ _ (fun a z => (h4 a).mpr (.inl z)) h1) (OwnL.drs (fun S3 v d z => f S3 v d fun a y => (h4 a).mpr (.inr (z a y))) h2)
  | _, [], _ :: _, _, h => h.elim
  | _, _ :: _, [], _, h => h.elim
/-- given up: what was owned stands in B' -/
theorem Own.give {c : Cfg} {B B' H : Hp} (hB : Ex B B') : ∀ {n : Nat} {S : Addr → Prop} {v : V} {d : D}, (∀ a o, S a → H a = some o → B' a = some o) → Own c B H n S v d → DR c B' v d
  | 0, _, _, _, _, ⟨_, h2⟩ => h2.mono hB
  | n + 1, S, v, .lst ds, g, ⟨a, vs, S1, e, h, _, hl, h1, h2⟩ => by
    subst e
    exact .lst (g a _ ((h2 a).mpr (.inl rfl)) h) (OwnL.drs (fun S3 _ _ z y => Own.give hB (fun b o q => g b o ((h2 b).mpr (.inr (z b q)))) y) hl)
  | n + 1, S, v, .tup ds, g, ⟨a, vs, S1, e, h, _, hl, h1, h2⟩ => by
    subst e
    exact .tup (g a _ ((h2 a).mpr (.inl rfl)) h) (OwnL.drs (fun S3 _ _ z y => Own.give hB (fun b o q => g b o ((h2 b).mpr (.inr (z b q)))) y) hl)
  | n + 1, S, v, .dic kvs, g, ⟨a, xs, ds, e, h, _, hs, h1, h2, h3, h4⟩ => by
    subst e h3
    exact .dic (g a _ ((h4 a).mpr rfl) h) (hs.mono hB) h1 h2
  | _ + 1, _, _, .non, _, h => by rw [h.2]; exact .non
  | _ + 1, _, _, .bl _, _, h => by rw [h.2]; exact .bl _
  | _ + 1, _, _, .int _, _, h => by rw [h.2]; exact .int _
  | _ + 1, _, _, .obj _, _, h => h.2.mono hB
  | _ + 1, _, _, .scr _, _, h => h.2.mono hB
  | _ + 1, _, _, .fix _, _, h => h.2.mono hB
  | _ + 1, _, _, .raw _, _, h => h.2.mono hB
/-- the stable heap with what is given up -/
noncomputable def frz (B H : Hp) (S : Addr → Prop) : Hp := open Classical in fun a => match B a with | some o => some o | none => if S a then H a else none
theorem frz_ex (B H : Hp) (S : Addr → Prop) : Ex B (frz B H S) := fun a o e => by unfold frz; rw [e]
theorem frz_in {B H : Hp} {S : Addr → Prop} {a : Addr} (hb : B a = none) (hs : S a) : frz B H S a = H a := by unfold frz; rw [hb]; exact if_pos hs
theorem frz_inv {B H : Hp} {S : Addr → Prop} {a : Addr} {o : HO} (h : frz B H S a = some o) : B a = some o ∨ (B a = none ∧ S a ∧ H a = some o) := by
  unfold frz at h
  cases e : B a with
  | some u => rw [e] at h; exact .inl h
  | none =>
    rw [e] at h
    by_cases hs : S a
    · have h' : H a = some o := (if_pos hs).symm.trans h
      exact .inr ⟨rfl, hs, h'⟩
    · have h' : (none : Option HO) = some o := (if_neg hs).symm.trans h
      cases h'
theorem frz_le {B H : Hp} {S : Addr → Prop} (e : Ex B H) : Ex (frz B H S) H := fun a o h => by
  rcases frz_inv h with q | ⟨_, _, q⟩
  · exact e a o q
  · exact q
theorem frz_none {B H : Hp} {S : Addr → Prop} {a : Addr} (hb : B a = none) (hs : ¬ S a) : frz B H S a = none := by
  cases e : frz B H S a with
  | none => rfl
  | some o =>
    rcases frz_inv e with q | ⟨_, q, _⟩
    · rw [hb] at q; cases q
    · exact (hs q).elim
theorem Own.frz {c : Cfg} {B H : Hp} {n : Nat} {S : Addr → Prop} {v : V} {d : D} (h : Own c B H n S v d) : DR c (frz B H S) v d :=
  h.give (frz_ex B H S) fun a o hs e => by rw [frz_in (h.there a hs).1 hs]; exact e

/-! ### environments -/
abbrev Rho := List (Option (Nat × D))
/-- the slots σ hold what ρ tells, over the stable heap B, the heap H; G: the heap that the frame must leave as it is (what it owns is not in G) -/
structure Env (c : Cfg) (G B H : Hp) (σ : St) (ρ : Rho) : Prop where
  bh : Ex B H
  gh : Ex G H
  len : σ.length = ρ.length
  own : ∃ Ss : Nat → Addr → Prop, (∀ i j a, Ss i a → Ss j a → i = j) ∧ (∀ i a, Ss i a → G a = none) ∧ ∀ i n d, ρ[i]? = some (some (n, d)) → ∃ v, σ[i]? = some (some v) ∧ Own c B H n (Ss i) v d
/-- the heap has grown, the stable heap too, by new things alone -/
structure Step (B H B' H' : Hp) : Prop where
  hH : Ex H H'
  hB : Ex B B'
  bh : Ex B' H'
  new : ∀ a o, B' a = some o → B a = some o ∨ H a = none
theorem Step.refl {B H : Hp} (e : Ex B H) : Step B H B H := ⟨Ex.refl H, Ex.refl B, e, fun _ _ z => .inl z⟩
theorem Step.grow {B H H' : Hp} (e : Ex B H) (h : Ex H H') : Step B H B H' := ⟨h, Ex.refl B, e.trans h, fun _ _ z => .inl z⟩
theorem Step.trans {B H B1 H1 B2 H2 : Hp} (a : Step B H B1 H1) (b : Step B1 H1 B2 H2) : Step B H B2 H2 := ⟨a.hH.trans b.hH, a.hB.trans b.hB, b.bh, fun x o e => by
  rcases b.new x o e with q | q
  · exact a.new x o q
  · exact .inr (Ex.back a.hH q)⟩
/-- what came, over what was; what is owned is new -/
def Res (c : Cfg) (B H H' : Hp) (n : Nat) (v : V) (d : D) : Prop := ∃ B' S, Step B H B' H' ∧ (∀ a, S a → H a = none) ∧ Own c B' H' n S v d
def cur (ρ : Rho) : Rho := ρ.map (Option.map fun p => (0, p.2))
section
variable {c : Cfg} {G B B' H H' : Hp} {σ : St} {ρ : Rho} {n : Nat} {v : V} {d : D}
theorem Env.step (E : Env c G B H σ ρ) (T : Step B H B' H') : Env c G B' H' σ ρ := by
  obtain ⟨Ss, h1, h2, h3⟩ := E.own
  refine ⟨T.bh, E.gh.trans T.hH, E.len, Ss, h1, h2, fun i n d e => ?_⟩
  obtain ⟨v, hv, ho⟩ := h3 i n d e
  refine ⟨v, hv, ho.frame T.hB (fun a z => ?_) fun a o _ q => T.hH a o q⟩
  obtain ⟨hb, o, hh⟩ := ho.there a z
  cases q : B' a with
  | none => rfl
  | some u =>
    rcases T.new a u q with y | y
    · rw [hb] at y; cases y
    · rw [hh] at y; cases y
theorem Env.grow (E : Env c G B H σ ρ) (hH : Ex H H') : Env c G B H' σ ρ := E.step (.grow E.bh hH)
/-- all as it stands now -/
theorem Env.cur (E : Env c G B H σ ρ) : Env c H H H σ (cur ρ) := by
  obtain ⟨Ss, h1, h2, h3⟩ := E.own
  refine ⟨Ex.refl H, Ex.refl H, by rw [E.len]; unfold DL.cur; rw [List.length_map], fun _ _ => False, fun _ _ _ z => z.elim, fun _ _ z => z.elim, fun i n d e => ?_⟩
  unfold DL.cur at e
  rw [List.getElem?_map] at e
  cases q : ρ[i]? with
  | none => rw [q] at e; simp at e
  | some o =>
    rw [q] at e
    cases o with
    | none => simp at e
    | some p =>
      obtain ⟨m, d'⟩ := p
      simp only [Option.map_some, Option.some.injEq, Prod.mk.injEq] at e
      obtain ⟨rfl, rfl⟩ := e
      obtain ⟨v, hv, ho⟩ := h3 i m d' q
      exact ⟨v, hv, fun _ z => z, ho.give E.bh fun a o _ z => z⟩
theorem Env.look (E : Env c G B H σ ρ) {i : Nat} (h : ρ[i]? = some (some (0, d))) : ∃ v, σ[i]? = some (some v) ∧ DR c B v d := by
  obtain ⟨Ss, _, _, h3⟩ := E.own
  obtain ⟨v, hv, ho⟩ := h3 i 0 d h
  exact ⟨v, hv, ho.2⟩
/-- a new value at a slot -/
theorem Env.bind (E : Env c G B H σ ρ) (i : Nat) (R : Res c B H H' n v d) : ∃ B', Env c G B' H' (σ.set i (some v)) (ρ.set i (some (n, d))) ∧ Step B H B' H' := by
  obtain ⟨B', S, T, r4, r5⟩ := R
  refine ⟨B', ?_, T⟩
  obtain ⟨hH, r1, r2, r3⟩ := T
  obtain ⟨Ts, g1, g2, g3⟩ := E.own
  -- only what stands at a slot that is told
  refine ⟨r2, E.gh.trans hH, by rw [List.length_set, List.length_set, E.len], fun j a => if j = i then S a else (Ts j a ∧ ∃ p, ρ[j]? = some (some p)), fun j k a z y => ?_, fun j a z => ?_, fun j m e q => ?_⟩
  · dsimp only at z y
    have old : ∀ m, (Ts m a ∧ ∃ p, ρ[m]? = some (some p)) → ∃ o, H a = some o := fun m ⟨t, ⟨p1, p2⟩, hp⟩ => by
      obtain ⟨u, _, ho⟩ := g3 m p1 p2 hp
      exact (ho.there a t).2
    by_cases hj : j = i
    · by_cases hk : k = i
      · rw [hj, hk]
      · exfalso
        rw [if_pos hj] at z
        rw [if_neg hk] at y
        obtain ⟨o, ho⟩ := old k y
        rw [r4 a z] at ho; cases ho
    · by_cases hk : k = i
      · exfalso
        rw [if_neg hj] at z
        rw [if_pos hk] at y
        obtain ⟨o, ho⟩ := old j z
        rw [r4 a y] at ho; cases ho
      · rw [if_neg hj] at z
        rw [if_neg hk] at y
        exact g1 j k a z.1 y.1
  · dsimp only at z
    by_cases hj : j = i
    · rw [if_pos hj] at z
      exact Ex.back E.gh (r4 a z)
    · rw [if_neg hj] at z
      exact g2 j a z.1
  · by_cases hj : j = i
    · subst hj
      have hlt : j < ρ.length := by
        have := (List.getElem?_eq_some_iff.mp q).1
        rwa [List.length_set] at this
      rw [List.getElem?_set_self hlt] at q
      cases q
      refine ⟨v, by rw [List.getElem?_set_self (by rw [E.len]; exact hlt)], ?_⟩
      have e : (fun a => if j = j then S a else Ts j a ∧ ∃ p, ρ[j]? = some (some p)) = S := by funext a; exact if_pos rfl
      show Own c B' H' n (fun a => if j = j then S a else Ts j a ∧ ∃ p, ρ[j]? = some (some p)) v d
      rw [e]
      exact r5
    · rw [List.getElem?_set_ne (Ne.symm hj)] at q
      obtain ⟨u, hu, ho⟩ := g3 j m e q
      refine ⟨u, by rw [List.getElem?_set_ne (Ne.symm hj)]; exact hu, ?_⟩
      have e2 : (fun a => if j = i then S a else Ts j a ∧ ∃ p, ρ[j]? = some (some p)) = Ts j := by
        funext a
        rw [if_neg hj]
        exact propext ⟨fun z => z.1, fun z => ⟨z, ⟨_, q⟩⟩⟩
      show Own c B' H' m (fun a => if j = i then S a else Ts j a ∧ ∃ p, ρ[j]? = some (some p)) u e
      rw [e2]
      refine ho.frame r1 (fun a z => ?_) fun a o _ z => hH a o z
      obtain ⟨hb, o, hh⟩ := ho.there a z
      cases y : B' a with
      | none => rfl
      | some w =>
        rcases r3 a w y with t | t
        · rw [hb] at t; cases t
        · rw [hh] at t; cases t
/-- an entry forgotten -/
theorem Env.forget (E : Env c G B H σ ρ) {ρ' : Rho} (hl : ρ'.length = ρ.length) (h : ∀ (i : Nat) (p : Nat × D), ρ'[i]? = some (some p) → ρ[i]? = some (some p)) : Env c G B H σ ρ' := by
  obtain ⟨Ss, h1, h2, h3⟩ := E.own
  exact ⟨E.bh, E.gh, E.len.trans hl.symm, Ss, h1, h2, fun i n d e => h3 i n d (h i _ e)⟩
/-- an entry given up -/
theorem Env.give (E : Env c G B H σ ρ) {i : Nat} (h : ρ[i]? = some (some (n, d))) : ∃ B', Env c G B' H σ (ρ.set i (some (0, d))) ∧ Ex B B' ∧ (∀ a o, B' a = some o → B a = some o ∨ G a = none) := by
  obtain ⟨Ss, h1, h2, h3⟩ := E.own
  obtain ⟨v, hv, ho⟩ := h3 i n d h
  refine ⟨DL.frz B H (Ss i), ⟨frz_le E.bh, E.gh, by rw [List.length_set, E.len], fun j a => j ≠ i ∧ Ss j a, fun j k a z y => h1 j k a z.2 y.2, fun j a z => h2 j a z.2, fun j m e q => ?_⟩, frz_ex _ _ _, fun a o z => ?_⟩
  · by_cases hj : j = i
    · subst hj
      have hlt : j < ρ.length := (List.getElem?_eq_some_iff.mp h).1
      rw [List.getElem?_set_self hlt] at q
      cases q
      exact ⟨v, hv, fun a z => z.1 rfl, ho.frz⟩
    · rw [List.getElem?_set_ne (Ne.symm hj)] at q
      obtain ⟨u, hu, hw⟩ := h3 j m e q
      refine ⟨u, hu, ?_⟩
      have e2 : (fun a => j ≠ i ∧ Ss j a) = Ss j := by
        funext a
        exact propext ⟨fun z => z.2, fun z => ⟨hj, z⟩⟩
      show Own c _ H m (fun a => j ≠ i ∧ Ss j a) u e
      rw [e2]
      refine hw.frame (frz_ex _ _ _) (fun a z => frz_none (hw.there a z).1 fun y => hj (h1 j i a z y)) fun a o _ z => z
  · rcases frz_inv z with q | ⟨_, q, _⟩
    · exact .inl q
    · exact .inr (h2 i a q)
theorem Res.imm (T : Step B H B' H') (h : DR c B' v d) : Res c B H H' 0 v d := ⟨B', fun _ => False, T, fun _ z => z.elim, fun _ z => z, h⟩
theorem Res.trans {H1 B1 : Hp} (T : Step B H B1 H1) (R : Res c B1 H1 H' n v d) : Res c B H H' n v d := by
  obtain ⟨B', S, T2, r4, r5⟩ := R
  exact ⟨B', S, T.trans T2, fun a z => Ex.back T.hH (r4 a z), r5⟩
end
end DL

/-! DBase2: what expressions give. -/
namespace DL
open PySem L2
/-! ### names for the rules' readings -/
def zAdd : R2 := rI0 fun i j => .int (i + j)
def zSub : R2 := rI0 fun i j => .int (i - j)
def zMul : R2 := rI CMul fun i j => .int (i * j)
def zDiv : R2 := rI CDiv fun i j => .int (i / j)
def zMod : R2 := rI (fun _ j => 0 < j) fun i j => .int (i % j)
def zPow : R2 := rI CPow fun i j => .int (i ^ j.toNat)
def zLt : R2 := rI0 fun i j => .bl (decide (i < j))
def zLe : R2 := rI0 fun i j => .bl (decide (i ≤ j))
def zGt : R2 := rI0 fun i j => .bl (decide (j < i))
def zGe : R2 := rI0 fun i j => .bl (decide (j ≤ i))
def zIsN : R2 := fun x y H Q => y = .non ∧ Q (.bl (decide (x = .non))) H
def zNotN : R2 := fun x y H Q => y = .non ∧ Q (.bl (!decide (x = .non))) H
def zNeg : V → Hp → VK → Prop := rU fun i => .int (-i)
abbrev lLen := Evl.rLenS
abbrev lList := Evl.rListS
abbrev lMax2 := Evl.rMax2
def lInt1 : List V → Hp → VK → Prop := fun xs H Q => (∃ i, xs = [.int i] ∧ Q (.int i) H) ∨ ∃ k, xs = [.bl k] ∧ Q (.int (if k then 1 else 0)) H
def zIns : V → List V → Hp → VK → Prop := fun x vs H Q => ∃ (l : Addr) (xs : List V) (i : Int) (y : V), x = .ref l ∧ vs = [.int i, y] ∧ H l = some (.lst xs) ∧ xs.length < sizeLine ∧ 0 ≤ i ∧ i < 2 ^ 63 ∧ Q .non (upd H l (.lst (xs.take i.toNat ++ [y] ++ xs.drop i.toNat)))
section
variable {X : Cx}
theorem o_add : OpR X (binaryOp .Add) zAdd := op_add
theorem o_sub : OpR X (binaryOp .Sub) zSub := op_sub
theorem o_mul : OpR X (binaryOp .Mult) zMul := op_mul
theorem o_div : OpR X (binaryOp .FloorDiv) zDiv := op_fdiv
theorem o_mod : OpR X (binaryOp .Mod) zMod := op_mod
theorem o_pow : OpR X (binaryOp .Pow) zPow := op_pow
theorem o_lt : OpR X (compareOp .Lt) zLt := op_lt
theorem o_le : OpR X (compareOp .LtE) zLe := op_le
theorem o_gt : OpR X (compareOp .Gt) zGt := op_gt
theorem o_ge : OpR X (compareOp .GtE) zGe := op_ge
theorem o_isN : OpR X (compareOp .Is) zIsN := op_isN
theorem o_notN : OpR X (compareOp .IsNot) zNotN := op_notN
theorem u_neg : UnR X (unaryOp .USub) zNeg := un_neg
theorem c_len : CallR X (.builtin "len") (lLen X.K) := call_len_seq
theorem c_list : CallR X (.type "list") (lList X.K) := call_list_of
theorem c_max2 (hc : X.calm = true) : CallR X (.builtin "max") lMax2 := call_max2 hc
theorem c_int1 : CallR X (.type "int") lInt1 := call_int1
theorem m_ins : MtR X "list.insert" zIns := mt_insert
end

/-! ### what an expression gives, in an environment -/
section
variable (c : Cfg)
def EX (te : TE) (ρ : Rho) (n : Nat) (d : D) : Prop := ∀ G B H σ, Env c G B H σ ρ → ∀ Q : VK, (∀ v H', Res c B H H' n v d → Q v H') → te σ H Q
def ET (tt : TT) (ρ : Rho) (b : Bool) : Prop := ∀ G B H σ, Env c G B H σ ρ → ∀ Q : Bool → Hp → Prop, (∀ H', Ex H H' → Q b H') → tt σ H Q
def ResL (B H H' : Hp) (n : Nat) (vs : List V) (ds : List D) : Prop := ∃ B' S, Step B H B' H' ∧ (∀ a, S a → H a = none) ∧ OwnL (Own c B' H' n) S vs ds
def EA (ta : TA) (ρ : Rho) (n : Nat) (ds : List D) : Prop := ∀ G B H σ, Env c G B H σ ρ → ∀ Q : List V → Hp → Prop, (∀ vs H', ResL c B H H' n vs ds → Q vs H') → ta σ H Q
def EO (to : TO) (ρ : Rho) (o : Option Int) : Prop := ∀ G B H σ, Env c G B H σ ρ → ∀ Q : Option Int → Hp → Prop, (∀ H', Ex H H' → Q o H') → to σ H Q
end
section
variable {c : Cfg} {ρ : Rho} {n : Nat} {d d1 d2 : D} {ds : List D} {ta tb te tc : TE} {t u : TT} {i j : Int} {G B H : Hp} {σ : St}
theorem EX.at0 (h : EX c te ρ 0 d) (E : Env c G B H σ ρ) {Q : VK} (k : ∀ v B' H', Step B H B' H' → DR c B' v d → Env c G B' H' σ ρ → Q v H') : te σ H Q :=
  h G B H σ E Q fun v H' ⟨B', S, T, _, o⟩ => k v B' H' T o.2 (E.step T)
theorem EX.int (h : EX c te ρ 0 (.int i)) (E : Env c G B H σ ρ) {Q : VK} (k : ∀ B' H', Step B H B' H' → Env c G B' H' σ ρ → Q (.int i) H') : te σ H Q :=
  h.at0 E fun v B' H' T r E' => by rw [r.int_inv]; exact k B' H' T E'
theorem EX.bl {b : Bool} (h : EX c te ρ 0 (.bl b)) (E : Env c G B H σ ρ) {Q : VK} (k : ∀ B' H', Step B H B' H' → Env c G B' H' σ ρ → Q (.bl b) H') : te σ H Q :=
  h.at0 E fun v B' H' T r E' => by rw [r.bl_inv]; exact k B' H' T E'
/-- a flat value, of an expression that is read over the heap as it stands -/
def D.flat : D → Bool
  | .non => true
  | .bl _ => true
  | .int _ => true
  | _ => false
theorem DR.flat {H H' : Hp} {v : V} (h : DR c H v d) (f : D.flat d = true) : DR c H' v d := by
  cases d with
  | non => cases h; exact .non
  | bl b => cases h; exact .bl b
  | int i => cases h; exact .int i
  | lst _ => cases f
  | tup _ => cases f
  | obj _ => cases f
  | dic _ => cases f
  | scr _ => cases f
  | fix _ => cases f
  | raw _ => cases f
theorem EX.ofCur (h : EX c te (cur ρ) 0 d) (f : D.flat d = true := by rfl) : EX c te ρ 0 d := fun G B H σ E Q k =>
  h.at0 E.cur fun v B' H' T r _ => k v H' (.imm (.grow E.bh T.hH) (r.flat f))
theorem ET.ofCur {b : Bool} (h : ET c t (cur ρ) b) : ET c t ρ b := fun G B H σ E Q k => h H H H σ E.cur Q k
/-- given up -/
theorem Res.give {B H H' : Hp} {v : V} (R : Res c B H H' n v d) : Res c B H H' 0 v d := by
  obtain ⟨B', S, T, f, o⟩ := R
  refine .imm (B' := frz B' H' S) ⟨T.hH, T.hB.trans (frz_ex _ _ _), frz_le T.bh, fun a o z => ?_⟩ o.frz
  rcases frz_inv z with q | ⟨_, q, _⟩
  · exact T.new a o q
  · exact .inr (f a q)
theorem EX.give (h : EX c te ρ n d) : EX c te ρ 0 d := fun G B H σ E Q k => h G B H σ E Q fun v H' R => k v H' R.give
theorem EX.is {d' : D} (h : EX c te ρ n d) (e : d = d') : EX c te ρ n d' := e ▸ h
theorem ET.is {b b' : Bool} (h : ET c t ρ b) (e : b = b') : ET c t ρ b' := e ▸ h
/-- flat values are owned to any depth -/
theorem Res.lift {B H H' : Hp} {v : V} (f : D.flat d = true) (R : Res c B H H' 0 v d) : Res c B H H' n v d := by
  obtain ⟨B', S, T, g, o⟩ := R
  refine ⟨B', S, T, g, ?_⟩
  obtain ⟨o1, o2⟩ := o
  cases n with
  | zero => exact ⟨o1, o2⟩
  | succ n =>
    cases d with
    | non => exact ⟨o1, o2.non_inv⟩
    | bl b => exact ⟨o1, o2.bl_inv⟩
    | int i => exact ⟨o1, o2.int_inv⟩
    | lst _ => cases f
    | tup _ => cases f
    | obj _ => cases f
    | dic _ => cases f
    | scr _ => cases f
    | fix _ => cases f
    | raw _ => cases f
theorem EX.lift (h : EX c te ρ 0 d) (f : D.flat d = true := by rfl) : EX c te ρ n d := fun G B H σ E Q k => h G B H σ E Q fun v H' R => k v H' (R.lift f)

/-! names, constants -/
theorem ex_var {i : Nat} (h : ρ[i]? = some (some (0, d))) : EX c (tVar i) ρ 0 d := fun G B H σ E Q k => by
  obtain ⟨v, hv, hr⟩ := E.look h
  exact ⟨v, hv, k v H (.imm (.refl E.bh) hr)⟩
theorem ex_c {v : V} (h : ∀ B, DR c B v d) : EX c (tC v) ρ 0 d := fun G B H σ E Q k => k v H (.imm (.refl E.bh) (h B))
theorem ex_int : EX c (tC (.int i)) ρ 0 (.int i) := ex_c fun _ => .int i
theorem ex_bl {b : Bool} : EX c (tC (.bl b)) ρ 0 (.bl b) := ex_c fun _ => .bl b
theorem ex_non : EX c (tC .non) ρ 0 .non := ex_c fun _ => .non

/-! ints -/
theorem ex_op {r : R2} (ha : EX c ta ρ 0 (.int i)) (hb : EX c tb ρ 0 (.int j)) (f : D.flat d = true) (hr : ∀ (H : Hp) (Q : VK), (∀ v, (∀ B, DR c B v d) → Q v H) → r (.int i) (.int j) H Q) : EX c (tOp r ta tb) ρ 0 d := fun G B H σ E Q k =>
  ha.int E fun B1 H1 T1 E1 => hb.int E1 fun B2 H2 T2 E2 => hr H2 Q fun v hv => k v H2 (.imm (T1.trans T2) (hv _))
theorem ex_add (ha : EX c ta ρ 0 (.int i)) (hb : EX c tb ρ 0 (.int j)) : EX c (tOp zAdd ta tb) ρ 0 (.int (i + j)) := ex_op ha hb rfl fun H Q k => ⟨i, j, rfl, rfl, k _ fun _ => .int _⟩
theorem ex_sub (ha : EX c ta ρ 0 (.int i)) (hb : EX c tb ρ 0 (.int j)) : EX c (tOp zSub ta tb) ρ 0 (.int (i - j)) := ex_op ha hb rfl fun H Q k => ⟨i, j, rfl, rfl, k _ fun _ => .int _⟩
theorem ex_mul (ha : EX c ta ρ 0 (.int i)) (hb : EX c tb ρ 0 (.int j)) (hc : CMul i j) : EX c (tOp zMul ta tb) ρ 0 (.int (i * j)) := ex_op ha hb rfl fun H Q k => ⟨i, j, rfl, rfl, hc, k _ fun _ => .int _⟩
theorem ex_div (ha : EX c ta ρ 0 (.int i)) (hb : EX c tb ρ 0 (.int j)) (hc : CDiv i j) : EX c (tOp zDiv ta tb) ρ 0 (.int (i / j)) := ex_op ha hb rfl fun H Q k => ⟨i, j, rfl, rfl, hc, k _ fun _ => .int _⟩
theorem ex_mod (ha : EX c ta ρ 0 (.int i)) (hb : EX c tb ρ 0 (.int j)) (hc : 0 < j) : EX c (tOp zMod ta tb) ρ 0 (.int (i % j)) := ex_op ha hb rfl fun H Q k => ⟨i, j, rfl, rfl, hc, k _ fun _ => .int _⟩
theorem ex_pow (ha : EX c ta ρ 0 (.int i)) (hb : EX c tb ρ 0 (.int j)) (hc : CPow i j) : EX c (tOp zPow ta tb) ρ 0 (.int (i ^ j.toNat)) := ex_op ha hb rfl fun H Q k => ⟨i, j, rfl, rfl, hc, k _ fun _ => .int _⟩
theorem ex_lt (ha : EX c ta ρ 0 (.int i)) (hb : EX c tb ρ 0 (.int j)) : EX c (tOp zLt ta tb) ρ 0 (.bl (decide (i < j))) := ex_op ha hb rfl fun H Q k => ⟨i, j, rfl, rfl, k _ fun _ => .bl _⟩
theorem ex_le (ha : EX c ta ρ 0 (.int i)) (hb : EX c tb ρ 0 (.int j)) : EX c (tOp zLe ta tb) ρ 0 (.bl (decide (i ≤ j))) := ex_op ha hb rfl fun H Q k => ⟨i, j, rfl, rfl, k _ fun _ => .bl _⟩
theorem ex_gt (ha : EX c ta ρ 0 (.int i)) (hb : EX c tb ρ 0 (.int j)) : EX c (tOp zGt ta tb) ρ 0 (.bl (decide (j < i))) := ex_op ha hb rfl fun H Q k => ⟨i, j, rfl, rfl, k _ fun _ => .bl _⟩
theorem ex_ge (ha : EX c ta ρ 0 (.int i)) (hb : EX c tb ρ 0 (.int j)) : EX c (tOp zGe ta tb) ρ 0 (.bl (decide (j ≤ i))) := ex_op ha hb rfl fun H Q k => ⟨i, j, rfl, rfl, k _ fun _ => .bl _⟩
theorem dec_vint (i j : Int) : decide (V.int i = V.int j) = decide (i = j) := by simp
theorem dec_vbl (i j : Bool) : decide (V.bl i = V.bl j) = decide (i = j) := by simp
theorem ex_eq (ha : EX c ta ρ 0 (.int i)) (hb : EX c tb ρ 0 (.int j)) : EX c (tOp rEq ta tb) ρ 0 (.bl (decide (i = j))) := ex_op ha hb rfl fun H Q k => ⟨rfl, by rw [dec_vint]; exact k _ fun _ => .bl _⟩
theorem ex_ne (ha : EX c ta ρ 0 (.int i)) (hb : EX c tb ρ 0 (.int j)) : EX c (tOp rNe ta tb) ρ 0 (.bl (!decide (i = j))) := ex_op ha hb rfl fun H Q k => ⟨rfl, by rw [dec_vint]; exact k _ fun _ => .bl _⟩
theorem ex_eqB {a b : Bool} (ha : EX c ta ρ 0 (.bl a)) (hb : EX c tb ρ 0 (.bl b)) : EX c (tOp rEq ta tb) ρ 0 (.bl (decide (a = b))) := fun G B H σ E Q k =>
  ha.bl E fun B1 H1 T1 E1 => hb.bl E1 fun B2 H2 T2 E2 => ⟨rfl, by rw [dec_vbl]; exact k _ H2 (.imm (T1.trans T2) (.bl _))⟩
theorem ex_neg (ha : EX c ta ρ 0 (.int i)) : EX c (tUn zNeg ta) ρ 0 (.int (-i)) := fun G B H σ E Q k => ha.int E fun B1 H1 T1 E1 => ⟨i, rfl, k _ H1 (.imm T1 (.int _))⟩
def D.isN : D → Bool
  | .non => true
  | _ => false
theorem dec_non {v : V} (h : DR c H v d) (hr : ∀ v, d ≠ .raw v) (hf : ∀ e, d ≠ .fix e) : decide (v = V.non) = d.isN := by
  cases h <;> first | (simp [D.isN]; done) | exact absurd rfl (hr _) | exact absurd rfl (hf _)
theorem ex_isN (ha : EX c ta ρ 0 d) (hr : ∀ v, d ≠ .raw v) (hf : ∀ e, d ≠ .fix e := by intro _ z; cases z) : EX c (tOp zIsN ta (tC .non)) ρ 0 (.bl d.isN) := fun G B H σ E Q k => ha.at0 E fun v B1 H1 T1 r E1 => ⟨rfl, by rw [dec_non r hr hf]; exact k _ H1 (.imm T1 (.bl _))⟩
theorem ex_notN (ha : EX c ta ρ 0 d) (hr : ∀ v, d ≠ .raw v) (hf : ∀ e, d ≠ .fix e := by intro _ z; cases z) : EX c (tOp zNotN ta (tC .non)) ρ 0 (.bl (!d.isN)) := fun G B H σ E Q k => ha.at0 E fun v B1 H1 T1 r E1 => ⟨rfl, by rw [dec_non r hr hf]; exact k _ H1 (.imm T1 (.bl _))⟩

/-! tests -/
theorem et_test {b : Bool} (h : EX c te ρ 0 (.bl b)) : ET c (tTest te) ρ b := fun G B H σ E Q k => h.bl E fun B1 H1 T1 E1 => ⟨b, rfl, k H1 T1.hH⟩
theorem et_B {b : Bool} (h : EX c te ρ 0 (.bl b)) : ET c (tB te) ρ b := fun G B H σ E Q k => h.bl E fun B1 H1 T1 E1 => ⟨b, rfl, k H1 T1.hH⟩
theorem et_and {a b : Bool} (h1 : ET c t ρ a) (h2 : a = true → ET c u ρ b) : ET c (tAnd t u) ρ (a && b) := fun G B H σ E Q k => h1 G B H σ E _ fun H1 e1 => by
  cases a with
  | true =>
    show u σ H1 Q
    exact h2 rfl G B H1 σ (E.grow e1) Q fun H2 e2 => k H2 (e1.trans e2)
  | false =>
    show Q false H1
    exact k H1 e1
theorem et_or {a b : Bool} (h1 : ET c t ρ a) (h2 : a = false → ET c u ρ b) : ET c (tOr t u) ρ (a || b) := fun G B H σ E Q k => h1 G B H σ E _ fun H1 e1 => by
  cases a with
  | true =>
    show Q true H1
    exact k H1 e1
  | false =>
    show u σ H1 Q
    exact h2 rfl G B H1 σ (E.grow e1) Q fun H2 e2 => k H2 (e1.trans e2)
theorem et_not {a : Bool} (h : ET c t ρ a) : ET c (tNot t) ρ (!a) := fun G B H σ E Q k => h G B H σ E _ fun H1 e1 => k H1 e1
theorem ex_and {a b : Bool} (h1 : EX c ta ρ 0 (.bl a)) (h2 : a = true → EX c tb ρ 0 (.bl b)) : EX c (tAndV ta tb) ρ 0 (.bl (a && b)) := fun G B H σ E Q k => h1.bl E fun B1 H1 T1 E1 => ⟨a, rfl, by
  cases a with
  | true =>
    show tb σ H1 Q
    exact (h2 rfl).bl E1 fun B2 H2 T2 E2 => k _ H2 (.imm (T1.trans T2) (.bl _))
  | false =>
    show Q (.bl false) H1
    exact k _ H1 (.imm T1 (.bl _))⟩
theorem ex_or {a b : Bool} (h1 : EX c ta ρ 0 (.bl a)) (h2 : a = false → EX c tb ρ 0 (.bl b)) : EX c (tOrV ta tb) ρ 0 (.bl (a || b)) := fun G B H σ E Q k => h1.bl E fun B1 H1 T1 E1 => ⟨a, rfl, by
  cases a with
  | true =>
    show Q (.bl true) H1
    exact k _ H1 (.imm T1 (.bl _))
  | false =>
    show tb σ H1 Q
    exact (h2 rfl).bl E1 fun B2 H2 T2 E2 => k _ H2 (.imm (T1.trans T2) (.bl _))⟩
theorem ex_not {a : Bool} (h1 : EX c ta ρ 0 (.bl a)) : EX c (tNotV ta) ρ 0 (.bl (!a)) := fun G B H σ E Q k => h1.bl E fun B1 H1 T1 E1 => ⟨a, rfl, k _ H1 (.imm T1 (.bl _))⟩
theorem ex_chain {r r' : R2} {a b : Bool} {i j l : Int} (h1 : EX c ta ρ 0 (.int i)) (h2 : EX c tb ρ 0 (.int j)) (hr : ∀ (H : Hp) (Q : VK), Q (.bl a) H → r (.int i) (.int j) H Q) (h3 : a = true → EX c tc ρ 0 (.int l))
    (hr' : ∀ (H : Hp) (Q : VK), Q (.bl b) H → r' (.int j) (.int l) H Q) : EX c (tChain r r' ta tb tc) ρ 0 (.bl (a && b)) := fun G B H σ E Q k => h1.int E fun B1 H1 T1 E1 => h2.int E1 fun B2 H2 T2 E2 => hr H2 _ ⟨a, rfl, by
  cases a with
  | true =>
    show tc σ H2 fun w' H4 => r' (.int j) w' H4 Q
    exact (h3 rfl).int E2 fun B3 H3 T3 E3 => hr' H3 Q (k _ H3 (.imm ((T1.trans T2).trans T3) (.bl _)))
  | false =>
    show Q (.bl false) H2
    exact k _ H2 (.imm (T1.trans T2) (.bl _))⟩
theorem ex_leLt {i j l : Int} (h1 : EX c ta ρ 0 (.int i)) (h2 : EX c tb ρ 0 (.int j)) (h3 : decide (i ≤ j) = true → EX c tc ρ 0 (.int l)) : EX c (tChain zLe zLt ta tb tc) ρ 0 (.bl (decide (i ≤ j) && decide (j < l))) :=
  ex_chain h1 h2 (fun _ _ q => ⟨i, j, rfl, rfl, q⟩) h3 fun _ _ q => ⟨j, l, rfl, rfl, q⟩
theorem ex_leLe {i j l : Int} (h1 : EX c ta ρ 0 (.int i)) (h2 : EX c tb ρ 0 (.int j)) (h3 : decide (i ≤ j) = true → EX c tc ρ 0 (.int l)) : EX c (tChain zLe zLe ta tb tc) ρ 0 (.bl (decide (i ≤ j) && decide (j ≤ l))) :=
  ex_chain h1 h2 (fun _ _ q => ⟨i, j, rfl, rfl, q⟩) h3 fun _ _ q => ⟨j, l, rfl, rfl, q⟩
theorem ex_if {b : Bool} (h : ET c t ρ b) (h1 : b = true → EX c ta ρ n d) (h2 : b = false → EX c tb ρ n d) : EX c (tIf t ta tb) ρ n d := fun G B H σ E Q k => h G B H σ E _ fun H1 e1 => by
  cases b with
  | true =>
    show ta σ H1 Q
    exact h1 rfl G B H1 σ (E.grow e1) Q fun v H2 R => k v H2 (.trans (.grow E.bh e1) R)
  | false =>
    show tb σ H1 Q
    exact h2 rfl G B H1 σ (E.grow e1) Q fun v H2 R => k v H2 (.trans (.grow E.bh e1) R)

/-! items -/
theorem atI_some {α : Type} {xs : List α} {i : Int} {x : α} (h : atI xs i = some x) : ∃ j : Nat, xs[j]? = some x ∧ ixN xs.length i = some j := by
  revert h
  unfold atI
  generalize ixN xs.length i = o
  rcases o with _ | j
  · exact fun z => nomatch z
  · exact fun z => ⟨j, z, rfl⟩
theorem DRs.at {vs : List V} (r : DRs c B vs ds) (h : atI ds i = some d) : ∃ v, atI vs i = some v ∧ DR c B v d := by
  obtain ⟨j, h1, h2⟩ := atI_some h
  obtain ⟨v, hv, hr⟩ := r.get h1
  refine ⟨v, ?_, hr⟩
  unfold atI
  rw [r.length, h2]
  exact hv
theorem ex_ixL (ha : EX c ta ρ 0 (.lst ds)) (hb : EX c tb ρ 0 (.int i)) (h : atI ds i = some d) : EX c (tOp (rIxL c.K) ta tb) ρ 0 d := fun G B H σ E Q k => ha.at0 E fun v B1 H1 T1 r E1 => hb.int E1 fun B2 H2 T2 E2 => by
  obtain ⟨a, vs, rfl, hl, hs⟩ := r.lst_inv
  obtain ⟨x, hx, hr⟩ := (hs.mono T2.hB).at h
  exact ⟨a, vs, i, x, rfl, rfl, .of (T2.bh _ _ (T2.hB _ _ hl)), hx, k x H2 (.imm (T1.trans T2) hr)⟩
theorem ex_ixT (ha : EX c ta ρ 0 (.tup ds)) (hb : EX c tb ρ 0 (.int i)) (h : atI ds i = some d) : EX c (tOp (rIxT c.K) ta tb) ρ 0 d := fun G B H σ E Q k => ha.at0 E fun v B1 H1 T1 r E1 => hb.int E1 fun B2 H2 T2 E2 => by
  obtain ⟨a, vs, rfl, hl, hs⟩ := r.tup_inv
  obtain ⟨x, hx, hr⟩ := (hs.mono T2.hB).at h
  exact ⟨a, vs, i, x, rfl, rfl, .of (T2.bh _ _ (T2.hB _ _ hl)), hx, k x H2 (.imm (T1.trans T2) hr)⟩
theorem ex_ixS {ns : List Int} {x : Int} (ha : EX c ta ρ 0 (.scr ns)) (hb : EX c tb ρ 0 (.int i)) (h : atI ns i = some x) : EX c (tOp (rIxL c.K) ta tb) ρ 0 (.int x) := fun G B H σ E Q k => ha.at0 E fun v B1 H1 T1 r E1 => hb.int E1 fun B2 H2 T2 E2 => by
  cases r with
  | scr hs =>
    refine ⟨_, ns.map V.int, i, .int x, rfl, rfl, sq_ex (T2.hB.trans T2.bh) hs, ?_, k _ H2 (.imm (T1.trans T2) (.int x))⟩
    obtain ⟨j, h1, h2⟩ := atI_some h
    unfold atI
    rw [List.length_map, h2]
    show (ns.map V.int)[j]? = _
    rw [List.getElem?_map, h1]
    rfl
/-- an item of a list of the frame's own -/
theorem ex_ixO {k : Nat} (hk : ρ[k]? = some (some (1, .lst ds))) (hb : EX c tb ρ 0 (.int i)) (h : atI ds i = some d) : EX c (tOp (rIxL c.K) (tVar k) tb) ρ 0 d := fun G B H σ E Q kk => by
  obtain ⟨Ss, _, _, h3⟩ := id E.own
  obtain ⟨v, hv, a, vs, S1, rfl, hl, hb', ho, _⟩ := h3 k 1 _ hk
  refine ⟨_, hv, hb.int E fun B2 H2 T2 E2 => ?_⟩
  have hs : DRs c B vs ds := OwnL.drs (fun _ _ _ _ z => z.2) ho
  obtain ⟨x, hx, hr⟩ := (hs.mono T2.hB).at h
  exact ⟨a, vs, i, x, rfl, rfl, .of (T2.hH _ _ hl), hx, kk x H2 (.imm T2 hr)⟩

/-! lengths, lists, tuples -/
theorem ea_nil : EA c tNil ρ n [] := fun G B H σ E Q k => k [] H ⟨B, fun _ => False, .refl E.bh, fun _ z => z.elim, fun _ z => z⟩
theorem ea_cons {tr : TA} (h : EX c te ρ n d) (hr : EA c tr ρ n ds) : EA c (tCons te tr) ρ n (d :: ds) := fun G B H σ E Q k => h G B H σ E _ fun v H1 ⟨B1, S1, T1, f1, o1⟩ => hr G B1 H1 σ (E.step T1) _ fun vs H2 ⟨B2, S2, T2, f2, o2⟩ => by
  refine k (v :: vs) H2 ⟨B2, fun a => S1 a ∨ S2 a, T1.trans T2, fun a z => z.elim (f1 a) fun q => Ex.back T1.hH (f2 a q), S1, S2, o1.frame T2.hB (fun a z => ?_) (fun a o _ q => T2.hH a o q), o2, fun a z y => ?_, fun a => Iff.rfl⟩
  · obtain ⟨hb, o, ho⟩ := o1.there a z
    cases q : B2 a with
    | none => rfl
    | some u =>
      rcases T2.new a u q with t | t
      · rw [hb] at t; cases t
      · rw [ho] at t; cases t
  · obtain ⟨_, o, ho⟩ := o1.there a z
    rw [f2 a y] at ho
    cases ho
theorem EA.at0 {ta : TA} (h : EA c ta ρ 0 ds) (E : Env c G B H σ ρ) {Q : List V → Hp → Prop} (k : ∀ vs B' H', Step B H B' H' → DRs c B' vs ds → Env c G B' H' σ ρ → Q vs H') : ta σ H Q :=
  h G B H σ E Q fun vs H' ⟨B', S, T, _, o⟩ => k vs B' H' T (OwnL.drs (fun _ _ _ _ z => z.2) o) (E.step T)
theorem OwnL.length {p : (Addr → Prop) → V → D → Prop} : ∀ {S : Addr → Prop} {vs : List V} {ds : List D}, OwnL p S vs ds → vs.length = ds.length
  | _, [], [], _ => rfl
  | _, _ :: _, _ :: _, ⟨_, _, _, h2, _, _⟩ => by rw [List.length_cons, List.length_cons, OwnL.length h2]
  | _, [], _ :: _, h => h.elim
  | _, _ :: _, [], h => h.elim
theorem sz (k : Nat) (h : k ≤ 100000) : k ≤ sizeLine := Nat.le_trans h (by decide)
theorem szl (k : Nat) (h : k < 100000) : k < sizeLine := Nat.lt_of_lt_of_le h (by decide)
/-- a new list, a new tuple of owned or settled things -/
theorem newLst {B H H1 : Hp} {vs : List V} {p : Addr} (R : ResL c B H H1 n vs ds) (hp : H1 p = none) : Res c B H (upd H1 p (.lst vs)) (n + 1) (.ref p) (.lst ds) := by
  obtain ⟨B1, S, T, f, o⟩ := R
  have hb : B1 p = none := Ex.back T.bh hp
  have hs : ¬ S p := fun z => by
    obtain ⟨_, o', h'⟩ := OwnL.there (R := fun a => B1 a = none ∧ ∃ o, H1 a = some o) (fun _ _ _ y => Own.there y) o p z
    rw [hp] at h'; cases h'
  refine ⟨B1, fun a => a = p ∨ S a, T.trans (.grow T.bh (Ex.new hp)), fun a z => z.elim (fun e => by rw [e]; exact Ex.back T.hH hp) (f a), p, vs, S, rfl, upd_same, hb, OwnL.imp (fun S3 v d z y => y.frame (Ex.refl _) (fun a q => (y.there a q).1) fun a u q e => ?_) o, hs, fun b => Iff.rfl⟩
  rw [upd_ne (fun e' => by rw [e', hp] at e; cases e)]
  exact e
theorem newTup {B H H1 : Hp} {vs : List V} {p : Addr} (R : ResL c B H H1 n vs ds) (hp : H1 p = none) : Res c B H (upd H1 p (.tup vs)) (n + 1) (.ref p) (.tup ds) := by
  obtain ⟨B1, S, T, f, o⟩ := R
  have hb : B1 p = none := Ex.back T.bh hp
  have hs : ¬ S p := fun z => by
    obtain ⟨_, o', h'⟩ := OwnL.there (R := fun a => B1 a = none ∧ ∃ o, H1 a = some o) (fun _ _ _ y => Own.there y) o p z
    rw [hp] at h'; cases h'
  refine ⟨B1, fun a => a = p ∨ S a, T.trans (.grow T.bh (Ex.new hp)), fun a z => z.elim (fun e => by rw [e]; exact Ex.back T.hH hp) (f a), p, vs, S, rfl, upd_same, hb, OwnL.imp (fun S3 v d z y => y.frame (Ex.refl _) (fun a q => (y.there a q).1) fun a u q e => ?_) o, hs, fun b => Iff.rfl⟩
  rw [upd_ne (fun e' => by rw [e', hp] at e; cases e)]
  exact e
theorem ex_lst {ta : TA} (h : EA c ta ρ n ds) (hl : ds.length ≤ 100000 := by decide) : EX c (tLst ta) ρ (n + 1) (.lst ds) := fun G B H σ E Q k => h G B H σ E _ fun vs H1 R => by
  have e := (let ⟨_, _, _, _, o⟩ := R; OwnL.length o : vs.length = ds.length)
  exact ⟨by rw [e]; exact sz _ hl, fun p hp => k _ _ (newLst R hp)⟩
theorem ex_tup {ta : TA} (h : EA c ta ρ n ds) (hl : ds.length ≤ 100000 := by decide) : EX c (tTup ta) ρ (n + 1) (.tup ds) := fun G B H σ E Q k => h G B H σ E _ fun vs H1 R => by
  have e := (let ⟨_, _, _, _, o⟩ := R; OwnL.length o : vs.length = ds.length)
  exact ⟨by rw [e]; exact sz _ hl, fun p hp => k _ _ (newTup R hp)⟩
theorem OwnL.of_drs {B H : Hp} : ∀ {vs : List V} {ds : List D}, DRs c B vs ds → OwnL (Own c B H 0) (fun _ => False) vs ds
  | _, _, .nil => fun _ z => z
  | _, _, .cons h hs => ⟨fun _ => False, fun _ => False, ⟨fun _ z => z, h⟩, OwnL.of_drs hs, fun _ z => z.elim, fun a => ⟨fun z => z.elim, fun z => z.elim id id⟩⟩
theorem ResL.of {B H B' H' : Hp} {vs : List V} (T : Step B H B' H') (h : DRs c B' vs ds) : ResL c B H H' 0 vs ds := ⟨B', fun _ => False, T, fun _ z => z.elim, OwnL.of_drs h⟩
theorem ex_len (ha : EX c ta ρ 0 (.lst ds)) : EX c (tCB (lLen c.K) (tCons ta tNil)) ρ 0 (.int (ds.length : Int)) := fun G B H σ E Q k => ha.at0 E fun v B1 H1 T1 r E1 => by
  obtain ⟨a, vs, rfl, hl, hs⟩ := r.lst_inv
  exact ⟨a, vs, rfl, .inl (.of (T1.bh _ _ hl)), by rw [hs.length]; exact k _ H1 (.imm T1 (.int _))⟩
theorem ex_lenT (ha : EX c ta ρ 0 (.tup ds)) : EX c (tCB (lLen c.K) (tCons ta tNil)) ρ 0 (.int (ds.length : Int)) := fun G B H σ E Q k => ha.at0 E fun v B1 H1 T1 r E1 => by
  obtain ⟨a, vs, rfl, hl, hs⟩ := r.tup_inv
  exact ⟨a, vs, rfl, .inr (.of (T1.bh _ _ hl)), by rw [hs.length]; exact k _ H1 (.imm T1 (.int _))⟩
theorem ex_lenS {ns : List Int} (ha : EX c ta ρ 0 (.scr ns)) : EX c (tCB (lLen c.K) (tCons ta tNil)) ρ 0 (.int (ns.length : Int)) := fun G B H σ E Q k => ha.at0 E fun v B1 H1 T1 r E1 => by
  cases r with
  | scr hs =>
    refine ⟨_, ns.map V.int, rfl, .inl (sq_ex T1.bh hs), ?_⟩
    rw [List.length_map]
    exact k _ H1 (.imm T1 (.int _))
/-- list(..) -/
theorem ex_list (ha : EX c ta ρ 0 (.lst ds)) : EX c (tCB (lList c.K) (tCons ta tNil)) ρ 1 (.lst ds) := fun G B H σ E Q k => ha.at0 E fun v B1 H1 T1 r E1 => by
  obtain ⟨a, vs, rfl, hl, hs⟩ := r.lst_inv
  exact ⟨a, vs, rfl, .inl (.of (T1.bh _ _ hl)), fun l hn => k _ _ (newLst (.of T1 hs) hn)⟩
theorem ex_listT (ha : EX c ta ρ 0 (.tup ds)) : EX c (tCB (lList c.K) (tCons ta tNil)) ρ 1 (.lst ds) := fun G B H σ E Q k => ha.at0 E fun v B1 H1 T1 r E1 => by
  obtain ⟨a, vs, rfl, hl, hs⟩ := r.tup_inv
  exact ⟨a, vs, rfl, .inr (.of (T1.bh _ _ hl)), fun l hn => k _ _ (newLst (.of T1 hs) hn)⟩
/-- .. of a list of the frame's own -/
theorem ex_listO {i : Nat} (hi : ρ[i]? = some (some (1, .lst ds))) : EX c (tCB (lList c.K) (tCons (tVar i) tNil)) ρ 1 (.lst ds) := fun G B H σ E Q k => by
  obtain ⟨Ss, _, _, h3⟩ := id E.own
  obtain ⟨v, hv, a, vs, S1, rfl, hl, hb', ho, _⟩ := h3 i 1 _ hi
  exact ⟨_, hv, a, vs, rfl, .inl (.of hl), fun l hn => k _ _ (newLst (.of (.refl E.bh) (OwnL.drs (fun _ _ _ _ z => z.2) ho)) hn)⟩
/-- tuple(..) of a list -/
theorem ex_tupOf (ha : EX c ta ρ 0 (.lst ds)) : EX c (tThen ta (kTup c.K)) ρ 1 (.tup ds) := fun G B H σ E Q k => ha.at0 E fun v B1 H1 T1 r E1 => by
  obtain ⟨a, vs, rfl, hl, hs⟩ := r.lst_inv
  exact .inl ⟨a, vs, rfl, .of (T1.bh _ _ hl), fun l hn => k _ _ (newTup (.of T1 hs) hn)⟩
/-- .. of a list of the frame's own -/
theorem ex_tupO {i : Nat} (hi : ρ[i]? = some (some (1, .lst ds))) : EX c (tThen (tVar i) (kTup c.K)) ρ 1 (.tup ds) := fun G B H σ E Q k => by
  obtain ⟨Ss, _, _, h3⟩ := id E.own
  obtain ⟨v, hv, a, vs, S1, rfl, hl, hb', ho, _⟩ := h3 i 1 _ hi
  exact ⟨_, hv, .inl ⟨a, vs, rfl, .of hl, fun l hn => k _ _ (newTup (.of (.refl E.bh) (OwnL.drs (fun _ _ _ _ z => z.2) ho)) hn)⟩⟩
theorem rgV_nat (n : Nat) : rgV 0 (n : Int) = ((List.range n).map fun (i : Nat) => V.int (i : Int)) := by
  unfold rgV
  rw [Int.sub_zero, Int.toNat_natCast]
  exact List.map_congr_left fun i _ => by rw [Int.zero_add]
theorem drs_range (n : Nat) : DRs c B ((List.range n).map fun (i : Nat) => V.int (i : Int)) ((List.range n).map fun (i : Nat) => D.int (i : Int)) := by
  have h : ∀ l : List Nat, DRs c B (l.map fun (i : Nat) => V.int (i : Int)) (l.map fun (i : Nat) => D.int (i : Int)) := fun l => by
    induction l with
    | nil => exact .nil
    | cons a l ih => exact .cons (.int _) ih
  exact h _
/-- tuple(range(n)), list(range(n)) -/
theorem ex_tupRg {m : Nat} (ha : EX c ta ρ 0 (.int (m : Int))) (hm : m ≤ 100000) : EX c (tTupRg (tRg1 ta)) ρ 1 (.tup ((List.range m).map fun (i : Nat) => D.int (i : Int))) := fun G B H σ E Q k => ha.int E fun B1 H1 T1 E1 =>
  ⟨(m : Int), rfl, .of_le (by omega) (by omega) (by omega) (by omega), fun q hq => by rw [rgV_nat]; exact k _ _ (newTup (.of T1 (drs_range m)) hq)⟩
theorem ex_lstRg {m : Nat} (ha : EX c ta ρ 0 (.int (m : Int))) (hm : m ≤ 100000) : EX c (tLstRg (tRg1 ta)) ρ 1 (.lst ((List.range m).map fun (i : Nat) => D.int (i : Int))) := fun G B H σ E Q k => ha.int E fun B1 H1 T1 E1 =>
  ⟨(m : Int), rfl, .of_le (by omega) (by omega) (by omega) (by omega), fun q hq => by rw [rgV_nat]; exact k _ _ (newLst (.of T1 (drs_range m)) hq)⟩
/-- xs + ys -/
theorem ex_cat {es : List D} (ha : EX c ta ρ 0 (.lst ds)) (hb : EX c tb ρ 0 (.lst es)) (hl : ds.length + es.length ≤ 100000) : EX c (tOp rCat ta tb) ρ 1 (.lst (ds ++ es)) := fun G B H σ E Q k => ha.at0 E fun v B1 H1 T1 r E1 => hb.at0 E1 fun v2 B2 H2 T2 r2 E2 => by
  obtain ⟨a, vs, rfl, hl1, hs⟩ := r.lst_inv
  obtain ⟨b, ws, rfl, hl2, hs2⟩ := r2.lst_inv
  exact ⟨a, b, vs, ws, rfl, rfl, T2.bh _ _ (T2.hB _ _ hl1), T2.bh _ _ hl2, by rw [hs.length, hs2.length]; exact sz _ hl, fun p hp => k _ _ (newLst (.of (T1.trans T2) ((hs.mono T2.hB).append hs2)) hp)⟩
theorem ex_max2 (ha : EX c ta ρ 0 (.int i)) (hb : EX c tb ρ 0 (.int j)) : EX c (tCB lMax2 (tCons ta (tCons tb tNil))) ρ 0 (.int (if j > i then j else i)) := fun G B H σ E Q k =>
  ha.int E fun B1 H1 T1 E1 => hb.int E1 fun B2 H2 T2 E2 => ⟨i, j, rfl, k _ H2 (.imm (T1.trans T2) (.int _))⟩
theorem ex_int1B {b : Bool} (ha : EX c ta ρ 0 (.bl b)) : EX c (tCB lInt1 (tCons ta tNil)) ρ 0 (.int (if b then 1 else 0)) := fun G B H σ E Q k => ha.bl E fun B1 H1 T1 E1 => .inr ⟨b, rfl, k _ H1 (.imm T1 (.int _))⟩
end
end DL

/-! DBase3: targets, comprehensions, statements, defs. -/
namespace DL
open PySem L2
section
variable {c : Cfg} {ρ : Rho} {n : Nat} {d d1 d2 : D} {ds es : List D} {ta tb te tl : TE} {tt : TT} {i j : Int} {G B H : Hp} {σ : St} {g : TG} {vs ws : List Nat}
/-! ### targets: ws the slots that are written -/
def GT (c : Cfg) (g : TG) (d : D) (up : Rho → Rho) (ws : List Nat) : Prop := ∀ G B H σ ρ v (Q : St → Hp → Prop), Env c G B H σ ρ → DR c B v d →
  (∀ σ', Env c G B H σ' (up ρ) → σ'.length = σ.length → (∀ k, k ∉ ws → σ'[k]? = σ[k]?) → Q σ' H) → g v σ H Q
theorem gt_name {i : Nat} : GT c (gName i) d (fun ρ => ρ.set i (some (0, d))) [i] := fun G B H σ ρ v Q E r k => by
  obtain ⟨B', E', T⟩ := E.bind i (Res.imm (.refl E.bh) r)
  refine k _ ?_ (List.length_set ..) fun k hk => List.getElem?_set_ne (fun e => hk (by rw [e]; exact List.mem_singleton.mpr rfl))
  -- nothing new came
  obtain ⟨Ss, h1, h2, h3⟩ := E.own
  refine ⟨E.bh, E.gh, by rw [List.length_set, List.length_set, E.len], fun j a => j ≠ i ∧ Ss j a, fun j k a z y => h1 j k a z.2 y.2, fun j a z => h2 j a z.2, fun j m e q => ?_⟩
  by_cases hj : j = i
  · subst hj
    have hlt : j < ρ.length := by
      have := (List.getElem?_eq_some_iff.mp q).1
      rwa [List.length_set] at this
    rw [List.getElem?_set_self hlt] at q
    cases q
    exact ⟨v, by rw [List.getElem?_set_self (by rw [E.len]; exact hlt)], fun a z => z.1 rfl, r⟩
  · rw [List.getElem?_set_ne (Ne.symm hj)] at q
    obtain ⟨u, hu, ho⟩ := h3 j m e q
    refine ⟨u, by rw [List.getElem?_set_ne (Ne.symm hj)]; exact hu, ?_⟩
    have e2 : (fun a => j ≠ i ∧ Ss j a) = Ss j := by
      funext a
      exact propext ⟨fun z => z.2, fun z => ⟨hj, z⟩⟩
    show Own c B H m (fun a => j ≠ i ∧ Ss j a) u e
    rw [e2]
    exact ho
theorem gt_two {i j : Nat} : GT c (gTup c.K 2 (gCons (gName i) (gCons (gName j) gNil))) (.tup [d1, d2]) (fun ρ => (ρ.set i (some (0, d1))).set j (some (0, d2))) [i, j] := fun G B H σ ρ v Q E r k => by
  obtain ⟨a, xs, rfl, ha, hs⟩ := r.tup_inv
  cases hs with
  | cons r1 hs =>
    cases hs with
    | cons r2 hs =>
      cases hs
      refine ⟨a, _, rfl, .of (E.bh _ _ ha), rfl, _, _, rfl, ?_⟩
      refine gt_name (c := c) (d := d1) G B H σ ρ _ _ E r1 fun σ1 E1 l1 f1 => ⟨_, _, rfl, ?_⟩
      refine gt_name (c := c) (d := d2) G B H σ1 _ _ _ E1 r2 fun σ2 E2 l2 f2 => ⟨rfl, ?_⟩
      exact k σ2 E2 (l2.trans l1) fun m hm => (f2 m fun z => hm (List.mem_cons_of_mem _ z)).trans (f1 m fun z => hm (by rw [List.mem_singleton.mp z]; exact List.mem_cons_self))
theorem gt_three {i j l : Nat} {d3 : D} : GT c (gTup c.K 3 (gCons (gName i) (gCons (gName j) (gCons (gName l) gNil)))) (.tup [d1, d2, d3]) (fun ρ => ((ρ.set i (some (0, d1))).set j (some (0, d2))).set l (some (0, d3))) [i, j, l] := fun G B H σ ρ v Q E r k => by
  obtain ⟨a, xs, rfl, ha, hs⟩ := r.tup_inv
  cases hs with
  | cons r1 hs =>
    cases hs with
    | cons r2 hs =>
      cases hs with
      | cons r3 hs =>
        cases hs
        refine ⟨a, _, rfl, .of (E.bh _ _ ha), rfl, _, _, rfl, ?_⟩
        refine gt_name (c := c) (d := d1) G B H σ ρ _ _ E r1 fun σ1 E1 l1 f1 => ⟨_, _, rfl, ?_⟩
        refine gt_name (c := c) (d := d2) G B H σ1 _ _ _ E1 r2 fun σ2 E2 l2 f2 => ⟨_, _, rfl, ?_⟩
        refine gt_name (c := c) (d := d3) G B H σ2 _ _ _ E2 r3 fun σ3 E3 l3 f3 => ⟨rfl, ?_⟩
        exact k σ3 E3 (l3.trans (l2.trans l1)) fun m hm => (f3 m fun z => hm (List.mem_cons_of_mem _ (List.mem_cons_of_mem _ z))).trans ((f2 m fun z => hm (List.mem_cons_of_mem _ (by rw [List.mem_singleton.mp z]; exact List.mem_cons_self))).trans (f1 m fun z => hm (by rw [List.mem_singleton.mp z]; exact List.mem_cons_self)))

/-! ### comprehensions -/
def wipeR (ρ : Rho) : List Nat → Rho
  | [] => ρ
  | v :: vs => (wipeR ρ vs).set v none
theorem wipeR_length (ρ : Rho) : ∀ vs : List Nat, (wipeR ρ vs).length = ρ.length
  | [] => rfl
  | v :: vs => by unfold wipeR; rw [List.length_set, wipeR_length ρ vs]
theorem wipeR_some {ρ : Rho} {i : Nat} {p : Nat × D} {vs : List Nat} (z : (wipeR ρ vs)[i]? = some (some p)) : ρ[i]? = some (some p) ∧ i ∉ vs := by
  induction vs with
  | nil => exact ⟨z, List.not_mem_nil⟩
  | cons v vs ih =>
    rw [show wipeR ρ (v :: vs) = (wipeR ρ vs).set v none from rfl, List.getElem?_set] at z
    split at z
    · split at z <;> simp at z
    · rename_i n
      exact ⟨(ih z).1, fun m => (List.mem_cons.mp m).elim (fun q => n q.symm) (ih z).2⟩
theorem Env.wipe (E : Env c G B H σ ρ) (vs : List Nat) : Env c G B H (L2.wipe σ vs) (wipeR ρ vs) := by
  obtain ⟨Ss, h1, h2, h3⟩ := E.own
  refine ⟨E.bh, E.gh, by rw [wipe_length, wipeR_length, E.len], Ss, h1, h2, fun i n d e => ?_⟩
  obtain ⟨e1, e2⟩ := wipeR_some e
  obtain ⟨v, hv, ho⟩ := h3 i n d e1
  exact ⟨v, by rw [wipe_out e2]; exact hv, ho⟩
theorem wipe_in {σ : St} {i : Nat} : ∀ {vs : List Nat}, i ∈ vs → i < σ.length → (L2.wipe σ vs)[i]? = some none
  | [], h, _ => by simp at h
  | v :: vs, h, hl => by
    unfold L2.wipe
    by_cases hv : v = i
    · subst hv
      rw [List.getElem?_set_self (by rw [wipe_length]; exact hl)]
    · rw [List.getElem?_set_ne hv]
      exact wipe_in ((List.mem_cons.mp h).resolve_left fun e => hv e.symm) hl
theorem wipe_eq {σ τ : St} {vs : List Nat} (hl : σ.length = τ.length) (h : ∀ k, k ∉ vs → σ[k]? = τ[k]?) : L2.wipe σ vs = L2.wipe τ vs := by
  refine List.ext_getElem? fun k => ?_
  by_cases hk : k ∈ vs
  · by_cases hlt : k < σ.length
    · rw [wipe_in hk hlt, wipe_in hk (hl ▸ hlt)]
    · rw [List.getElem?_eq_none (by rw [wipe_length]; omega), List.getElem?_eq_none (by rw [wipe_length]; omega)]
  · rw [wipe_out hk, wipe_out hk, h k hk]
theorem wipe_wipe {σ : St} {vs : List Nat} : L2.wipe (L2.wipe σ vs) vs = L2.wipe σ vs := wipe_eq (wipe_length ..) fun k hk => wipe_out hk
theorem OwnL.append {p : (Addr → Prop) → V → D → Prop} (hp : ∀ S S' v d, (∀ a, S a ↔ S' a) → p S v d → p S' v d) : ∀ {S T : Addr → Prop} {xs ys : List V} {ds es : List D}, OwnL p S xs ds → OwnL p T ys es → (∀ a, S a → ¬ T a) → OwnL p (fun a => S a ∨ T a) (xs ++ ys) (ds ++ es)
  | S, T, [], ys, [], es, h, h2, _ => by
    have e : (fun a => S a ∨ T a) = T := by
      funext a
      exact propext ⟨fun z => z.elim (fun q => (h a q).elim) id, .inr⟩
    rw [e]
    exact h2
  | S, T, x :: xs, ys, d :: ds, es, ⟨S1, S2, h1, h2, h3, h4⟩, k, hd => ⟨S1, fun a => S2 a ∨ T a, h1, OwnL.append hp h2 k (fun a z => hd a ((h4 a).mpr (.inr z))), fun a z q => q.elim (h3 a z) (hd a ((h4 a).mpr (.inl z))), fun a => ⟨fun z => z.elim (fun q => ((h4 a).mp q).elim .inl fun t => .inr (.inl t)) fun q => .inr (.inr q), fun z => z.elim (fun q => .inl ((h4 a).mpr (.inl q))) fun q => q.elim (fun t => .inl ((h4 a).mpr (.inr t))) .inr⟩⟩
  | _, _, [], _, _ :: _, _, h, _, _ => h.elim
  | _, _, _ :: _, _, [], _, h, _, _ => h.elim
theorem Own.congr {n : Nat} {S S' : Addr → Prop} {v : V} {d : D} (e : ∀ a, S a ↔ S' a) (h : Own c B H n S v d) : Own c B H n S' v d := by
  have : S = S' := funext fun a => propext (e a)
  rw [← this]
  exact h
theorem OwnL.one {n : Nat} {S : Addr → Prop} {v : V} {d : D} (h : Own c B H n S v d) : OwnL (Own c B H n) S [v] [d] :=
  ⟨S, fun _ => False, h, fun _ z => z, fun _ _ z => z, fun a => ⟨.inl, fun z => z.elim id fun q => q.elim⟩⟩
theorem OwnL.frame {B' H' : Hp} {n : Nat} {S : Addr → Prop} {vs : List V} {ds : List D} (hB : Ex B B') (hn : ∀ a, S a → B' a = none) (hH : ∀ a o, S a → H a = some o → H' a = some o) (h : OwnL (Own c B H n) S vs ds) : OwnL (Own c B' H' n) S vs ds :=
  OwnL.imp (fun S1 v d z y => y.frame hB (fun a q => hn a (z a q)) fun a o q => hH a o (z a q)) h
theorem OwnL.thereE {n : Nat} {S : Addr → Prop} {vs : List V} {ds : List D} (h : OwnL (Own c B H n) S vs ds) : ∀ a, S a → B a = none ∧ ∃ o, H a = some o :=
  OwnL.there (R := fun a => B a = none ∧ ∃ o, H a = some o) (fun _ _ _ y => Own.there y) h
/-- the new things of a step are none of what was owned -/
theorem Step.off {B' H' : Hp} (T : Step B H B' H') {a : Addr} (hb : B a = none) (ho : ∃ o, H a = some o) : B' a = none := by
  cases q : B' a with
  | none => rfl
  | some u =>
    obtain ⟨o, ho⟩ := ho
    rcases T.new a u q with t | t
    · rw [hb] at t; cases t
    · rw [ho] at t; cases t
/-- what a comprehension has made so far, in the new list at L -/
def LcB (c : Cfg) (B1 H1 : Hp) (L : Addr) (n : Nat) (out : List D) (B' H : Hp) : Prop := ∃ S vs, Step B1 H1 B' H ∧ (∀ a, S a → H1 a = none) ∧ ¬ S L ∧ B' L = none ∧ H L = some (.lst vs) ∧ OwnL (Own c B' H n) S vs out
def LcW (c : Cfg) (B1 H1 : Hp) (L : Addr) (n : Nat) (out : List D) (H : Hp) : Prop := ∃ B', LcB c B1 H1 L n out B' H
theorem LcW.start {B1 H1 : Hp} {L : Addr} (e : Ex B1 H1) (hL : H1 L = none) : LcW c B1 H1 L n [] (upd H1 L (.lst [])) :=
  ⟨B1, fun _ => False, [], .grow e (Ex.new hL), fun _ z => z.elim, fun z => z, Ex.back e hL, upd_same, fun _ z => z⟩
theorem LcW.turn {B1 H1 B' : Hp} {L : Addr} {out : List D} (hL : H1 L = none) (W : LcB c B1 H1 L n out B' H) (hz : out.length < 100000) {b : Bool} {d : D} {σ2 : St} {ρ2 : Rho} (e2 : Env c G B' H σ2 ρ2)
    (ht : ET c tt ρ2 b) (he : b = true → EX c te ρ2 n d) {Nx : Hp → Prop} (hn : ∀ H', LcW c B1 H1 L n (out ++ if b = true then [d] else []) H' → Nx H') :
    tt σ2 H fun b H3 => if b = true then te σ2 H3 fun y H4 => ∃ acc, H4 L = some (.lst acc) ∧ acc.length < sizeLine ∧ Nx (upd H4 L (.lst (acc ++ [y]))) else Nx H3 := by
  obtain ⟨S, vs, T, f, hS, hB, hH, o⟩ := W
  refine ht G B' H σ2 e2 _ fun H3 x3 => ?_
  have T3 : Step B1 H1 B' H3 := T.trans (.grow T.bh x3)
  have o3 : OwnL (Own c B' H3 n) S vs out := o.frame (Ex.refl _) (fun a z => (o.thereE a z).1) fun a u z q => x3 a u q
  cases b with
  | true =>
    show te σ2 H3 fun y H4 => ∃ acc, H4 L = some (.lst acc) ∧ acc.length < sizeLine ∧ Nx (upd H4 L (.lst (acc ++ [y])))
    refine he rfl G B' H3 σ2 (e2.grow x3) _ fun y H4 ⟨B4, S4, T4, f4, o4⟩ => ?_
    have h4 : H4 L = some (.lst vs) := T4.hH _ _ (x3 _ _ hH)
    refine ⟨vs, h4, szl _ (by rw [OwnL.length o]; exact hz), hn _ ?_⟩
    have b4 : B4 L = none := T4.off hB ⟨_, x3 _ _ hH⟩
    have nS4 : ¬ S4 L := fun z => by have := f4 L z; rw [x3 _ _ hH] at this; cases this
    refine ⟨B4, fun a => S a ∨ S4 a, vs ++ [y], ?_, fun a z => z.elim (f a) fun q => Ex.back T3.hH (f4 a q), fun z => z.elim hS nS4, b4, upd_same, ?_⟩
    · refine ⟨Ex.mut (T3.hH.trans T4.hH) hL, T3.hB.trans T4.hB, Ex.mut T4.bh b4, (T3.trans T4).new⟩
    · refine OwnL.append (fun S S' v d e h => h.congr e) ?_ (OwnL.one ?_) fun a z q => ?_
      · refine o3.frame T4.hB (fun a z => T4.off (o3.thereE a z).1 (o3.thereE a z).2) fun a u z q => ?_
        rw [upd_ne (fun e => by rw [e] at z; exact hS z)]
        exact T4.hH _ _ q
      · refine o4.frame (Ex.refl _) (fun a z => (o4.there a z).1) fun a u z q => ?_
        rw [upd_ne (fun e => by rw [e] at z; exact nS4 z)]
        exact q
      · obtain ⟨_, u, hu⟩ := o3.thereE a z
        rw [f4 a q] at hu; cases hu
  | false =>
    show Nx H3
    refine hn _ ⟨B', S, vs, T3, f, hS, hB, x3 _ _ hH, ?_⟩
    rw [show (out ++ if false = true then [d] else []) = out by simp]
    exact o3
theorem LcW.done {B1 H1 : Hp} {L : Addr} {out : List D} (hL : H1 L = none) (W : LcW c B1 H1 L n out H) : Res c B1 H1 H (n + 1) (.ref L) (.lst out) := by
  obtain ⟨B', S, vs, T, f, hS, hB, hH, o⟩ := W
  exact ⟨B', fun a => a = L ∨ S a, T, fun a z => z.elim (fun e => e ▸ hL) (f a), L, vs, S, rfl, hH, hB, o, hS, fun _ => Iff.rfl⟩
theorem take_at {α : Type} : ∀ {l : List α} {i : Nat} {x : α}, l[i]? = some x → l.take (i + 1) = l.take i ++ [x]
  | [], i, x, h => by simp at h
  | a :: l, 0, x, h => by
    have e : a = x := Option.some.inj h
    subst e
    rfl
  | a :: l, i + 1, x, h => by
    have ih := take_at (l := l) (i := i) (x := x) h
    show a :: l.take (i + 1) = a :: l.take i ++ [x]
    rw [ih]
    rfl
theorem outs_at {α : Type} {l : List α} {i : Nat} {x : α} (p : α → Bool) (f : α → D) (h : l[i]? = some x) : ((l.take (i + 1)).filter p).map f = ((l.take i).filter p).map f ++ if p x = true then [f x] else [] := by
  rw [take_at h, List.filter_append, List.map_append]
  cases e : p x with
  | true => rw [List.filter_cons, if_pos e]; simp
  | false => rw [List.filter_cons, if_neg (by rw [e]; decide)]; simp
theorem outs_len {α : Type} (l : List α) (i : Nat) (p : α → Bool) (f : α → D) : (((l.take i).filter p).map f).length ≤ l.length := by
  rw [List.length_map]
  exact Nat.le_trans (List.length_filter_le ..) (by rw [List.length_take]; omega)
theorem outs_all {α : Type} (l : List α) (p : α → Bool) (f : α → D) : ((l.take l.length).filter p).map f = (l.filter p).map f := by rw [List.take_length]
/-- [e for t in list if ..] -/
theorem ex_lcL {α : Type} (xs : List α) (e : α → D) (p : α → Bool) (f : α → D) {up : α → Rho → Rho} (hl : EX c tl ρ 0 (.lst (xs.map e))) (hg : ∀ x, GT c g (e x) (up x) ws) (ht : ∀ x ∈ xs, ET c tt (up x (wipeR ρ vs)) (p x))
    (he : ∀ x ∈ xs, p x = true → EX c te (up x (wipeR ρ vs)) n (f x)) (hz : xs.length < 100000) (hw : ∀ w ∈ ws, w ∈ vs := by decide) : EX c (tLc (iList c.K tl) g tt te vs) ρ (n + 1) (.lst ((xs.filter p).map f)) := fun G B H σ E Q k => hl.at0 E fun v B1 H1 T1 r E1 => by
  obtain ⟨a, us, rfl, ha, hs⟩ := r.lst_inv
  refine ⟨a, rfl, ⟨us, .of (E1.bh _ _ ha)⟩, fun L hL => lc_list (xs := us) (fun i H' => LcW c B1 H1 L n (((xs.take i).filter p).map f) H') ?_ (fun i H' _ W => ?_) (fun i y H' hy W => ?_) fun H' W => ?_⟩
  · exact LcW.start E1.bh hL
  · obtain ⟨B', S, vs', T, _⟩ := W
    exact .of (T.hH _ _ (E1.bh _ _ ha))
  · obtain ⟨d, hd, hr⟩ := hs.getV hy
    rw [List.getElem?_map] at hd
    obtain ⟨x, hx, rfl⟩ := Option.map_eq_some_iff.mp hd
    have hm : x ∈ xs := List.mem_of_getElem? hx
    obtain ⟨B', W'⟩ := W
    have T : Step B1 H1 B' H' := let ⟨_, _, T, _⟩ := W'; T
    refine hg x G B' H' _ _ y _ ((E1.step T).wipe vs) (hr.mono T.hB) fun σ2 E2 l2 k2 => ⟨?_, ?_⟩
    · refine (wipe_eq (l2.trans (wipe_length ..)) fun m hm => (k2 m fun z => hm (hw m z)).trans (wipe_out hm))
    · rw [outs_at p f hx]
      exact LcW.turn hL W' (Nat.lt_of_le_of_lt (outs_len xs i p f) hz) E2 (ht x hm) (he x hm) fun _ z => z
  · have hlen : us.length = xs.length := by rw [hs.length, List.length_map]
    rw [hlen, outs_all] at W
    exact k _ _ (.trans T1 (W.done hL))
/-- .. over a tuple -/
theorem ex_lcT {α : Type} (xs : List α) (e : α → D) (p : α → Bool) (f : α → D) {up : α → Rho → Rho} (hl : EX c tl ρ 0 (.tup (xs.map e))) (hg : ∀ x, GT c g (e x) (up x) ws) (ht : ∀ x ∈ xs, ET c tt (up x (wipeR ρ vs)) (p x))
    (he : ∀ x ∈ xs, p x = true → EX c te (up x (wipeR ρ vs)) n (f x)) (hz : xs.length < 100000) (hw : ∀ w ∈ ws, w ∈ vs := by decide) : EX c (tLc (iTup c.K tl) g tt te vs) ρ (n + 1) (.lst ((xs.filter p).map f)) := fun G B H σ E Q k => hl.at0 E fun v B1 H1 T1 r E1 => by
  obtain ⟨a, us, rfl, ha, hs⟩ := r.tup_inv
  refine ⟨a, rfl, ⟨us, .of (E1.bh _ _ ha)⟩, fun L hL => lc_tup (xs := us) (fun i H' => LcW c B1 H1 L n (((xs.take i).filter p).map f) H') ?_ (fun i H' _ W => ?_) (fun i y H' hy W => ?_) fun H' W => ?_⟩
  · exact LcW.start E1.bh hL
  · obtain ⟨B', S, vs', T, _⟩ := W
    exact .of (T.hH _ _ (E1.bh _ _ ha))
  · obtain ⟨d, hd, hr⟩ := hs.getV hy
    rw [List.getElem?_map] at hd
    obtain ⟨x, hx, rfl⟩ := Option.map_eq_some_iff.mp hd
    have hm : x ∈ xs := List.mem_of_getElem? hx
    obtain ⟨B', W'⟩ := W
    have T : Step B1 H1 B' H' := let ⟨_, _, T, _⟩ := W'; T
    refine hg x G B' H' _ _ y _ ((E1.step T).wipe vs) (hr.mono T.hB) fun σ2 E2 l2 k2 => ⟨?_, ?_⟩
    · refine (wipe_eq (l2.trans (wipe_length ..)) fun m hm => (k2 m fun z => hm (hw m z)).trans (wipe_out hm))
    · rw [outs_at p f hx]
      exact LcW.turn hL W' (Nat.lt_of_le_of_lt (outs_len xs i p f) hz) E2 (ht x hm) (he x hm) fun _ z => z
  · have hlen : us.length = xs.length := by rw [hs.length, List.length_map]
    rw [hlen, outs_all] at W
    exact k _ _ (.trans T1 (W.done hL))
theorem et_yes : ET c tYes ρ true := fun G B H σ E Q k => k H (Ex.refl H)
theorem ex_lcLm {α : Type} (xs : List α) (e : α → D) (f : α → D) {up : α → Rho → Rho} (hl : EX c tl ρ 0 (.lst (xs.map e))) (hg : ∀ x, GT c g (e x) (up x) ws)
    (he : ∀ x ∈ xs, EX c te (up x (wipeR ρ vs)) n (f x)) (hz : xs.length < 100000) (hw : ∀ w ∈ ws, w ∈ vs := by decide) : EX c (tLc (iList c.K tl) g tYes te vs) ρ (n + 1) (.lst (xs.map f)) := by
  have h := ex_lcL (n := n) xs e (fun _ => true) f hl hg (fun x _ => et_yes) (fun x hx _ => he x hx) hz hw
  rw [show xs.filter (fun _ => true) = xs from List.filter_eq_self.mpr fun _ _ => rfl] at h
  exact h
/-- [e for k in range(m) if ..] -/
theorem ex_lcR {ta : TA} {m : Nat} (p : Nat → Bool) (f : Nat → D) {up : Nat → Rho → Rho} (hl : EA c ta ρ 0 [.int (m : Int)]) (hg : ∀ x : Nat, GT c g (.int (x : Int)) (up x) ws) (ht : ∀ x, x < m → ET c tt (up x (wipeR ρ vs)) (p x))
    (he : ∀ x, x < m → p x = true → EX c te (up x (wipeR ρ vs)) n (f x)) (hz : m < 100000) (hw : ∀ w ∈ ws, w ∈ vs := by decide) : EX c (tLc (iRng1 ta) g tt te vs) ρ (n + 1) (.lst (((List.range m).filter p).map f)) := fun G B H σ E Q k => hl.at0 E fun us B1 H1 T1 r E1 => by
  cases r with
  | cons r r0 =>
    cases r0
    cases r
    refine ⟨(m : Int), rfl, by omega, by omega, fun L hL => ?_⟩
    have em : (m : Int).toNat = m := Int.toNat_natCast m
    rw [em]
    refine lc_range (lo := 0) (n := m) (fun i H' => LcW c B1 H1 L n ((((List.range m).take i).filter p).map f) H') ?_ (fun i H' hi W => ?_) fun H' W => ?_
    · exact LcW.start E1.bh hL
    · have hx : (List.range m)[i]? = some i := List.getElem?_range hi
      obtain ⟨B', W'⟩ := W
      have T : Step B1 H1 B' H' := let ⟨_, _, T, _⟩ := W'; T
      rw [Int.zero_add]
      refine hg i G B' H' _ _ _ _ ((E1.step T).wipe vs) (.int _) fun σ2 E2 l2 k2 => ⟨?_, ?_⟩
      · refine (wipe_eq (l2.trans (wipe_length ..)) fun m hm => (k2 m fun z => hm (hw m z)).trans (wipe_out hm))
      · rw [outs_at p f hx]
        exact LcW.turn hL W' (Nat.lt_of_le_of_lt (outs_len _ i p f) (by rw [List.length_range]; exact hz)) E2 (ht i hi) (he i hi) fun _ z => z
    · have e : (List.range m).take m = List.range m := List.take_of_length_le (by rw [List.length_range]; exact Nat.le_refl _)
      rw [e] at W
      exact k _ _ (.trans T1 (W.done hL))
theorem ex_lcRm {ta : TA} {m : Nat} (f : Nat → D) {up : Nat → Rho → Rho} (hl : EA c ta ρ 0 [.int (m : Int)]) (hg : ∀ x : Nat, GT c g (.int (x : Int)) (up x) ws)
    (he : ∀ x, x < m → EX c te (up x (wipeR ρ vs)) n (f x)) (hz : m < 100000) (hw : ∀ w ∈ ws, w ∈ vs := by decide) : EX c (tLc (iRng1 ta) g tYes te vs) ρ (n + 1) (.lst ((List.range m).map f)) := by
  have h := ex_lcR (n := n) (fun _ => true) f hl hg (fun x _ => et_yes) (fun x hx _ => he x hx) hz hw
  rw [show (List.range m).filter (fun _ => true) = List.range m from List.filter_eq_self.mpr fun _ _ => rfl] at h
  exact h
end

/-! ### statements -/
structure Posts where
  nx : Rho → Prop
  rt : Nat → D → Prop
  bk : Rho → Prop := fun _ => False
  ct : Rho → Prop := fun _ => False
def Base (B0 G B : Hp) : Prop := Ex B0 B ∧ ∀ a o, B a = some o → B0 a = some o ∨ G a = none
/-- what is wanted behind is wanted of every end that fits -/
structure Meets (c : Cfg) (B0 G : Hp) (P : Posts) (E : Ends) : Prop where
  nx : ∀ B H σ ρ, P.nx ρ → Env c G B H σ ρ → Base B0 G B → E.nx σ H
  rt : ∀ v H n d, P.rt n d → Res c B0 G H n v d → E.rt v H
  bk : ∀ B H σ ρ, P.bk ρ → Env c G B H σ ρ → Base B0 G B → E.bk σ H
  ct : ∀ B H σ ρ, P.ct ρ → Env c G B H σ ρ → Base B0 G B → E.ct σ H
def Run (c : Cfg) (t : TS) (ρ : Rho) (P : Posts) : Prop := ∀ B0 G B H σ E, Env c G B H σ ρ → Base B0 G B → Meets c B0 G P E → t E σ H
theorem Base.step {B0 G B H B' H' : Hp} (b : Base B0 G B) (gh : Ex G H) (T : Step B H B' H') : Base B0 G B' := ⟨b.1.trans T.hB, fun a o e => by
  rcases T.new a o e with q | q
  · exact b.2 a o q
  · exact .inr (Ex.back gh q)⟩
theorem Base.res {c : Cfg} {B0 G B H H' : Hp} {n : Nat} {v : V} {d : D} (b : Base B0 G B) (gh : Ex G H) (R : Res c B H H' n v d) : Res c B0 G H' n v d := by
  obtain ⟨B', S, T, f, o⟩ := R
  have b' := b.step gh T
  exact ⟨B', S, ⟨gh.trans T.hH, b'.1, T.bh, b'.2⟩, fun a z => Ex.back gh (f a z), o⟩
section
variable {c : Cfg} {ρ : Rho} {n : Nat} {d d1 d2 : D} {ds es : List D} {ta tb te tl : TE} {tt : TT} {t u : TS} {i j : Int} {g : TG} {P P' : Posts} {ws : List Nat}
theorem run_mono (h : Run c t ρ P) (h1 : ∀ ρ, P.nx ρ → P'.nx ρ) (h2 : ∀ n d, P.rt n d → P'.rt n d) (h3 : ∀ ρ, P.bk ρ → P'.bk ρ := by exact fun _ z => z) (h4 : ∀ ρ, P.ct ρ → P'.ct ρ := by exact fun _ z => z) : Run c t ρ P' := fun B0 G B H σ E e b m =>
  h B0 G B H σ E e b ⟨fun B H σ ρ z => m.nx B H σ ρ (h1 ρ z), fun v H n d z => m.rt v H n d (h2 n d z), fun B H σ ρ z => m.bk B H σ ρ (h3 ρ z), fun B H σ ρ z => m.ct B H σ ρ (h4 ρ z)⟩
theorem run_seq (h : Run c t ρ { P with nx := fun ρ' => Run c u ρ' P }) : Run c (tSeq t u) ρ P := fun B0 G B H σ E e b m =>
  h B0 G B H σ { E with nx := u E } e b ⟨fun B H σ ρ z e b => z B0 G B H σ E e b m, m.rt, m.bk, m.ct⟩
theorem run_next (h : P.nx ρ) : Run c tNext ρ P := fun B0 G B H σ E e b m => m.nx B H σ ρ h e b
theorem run_break (h : P.bk ρ) : Run c tBreak ρ P := fun B0 G B H σ E e b m => m.bk B H σ ρ h e b
theorem run_cont (h : P.ct ρ) : Run c tCont ρ P := fun B0 G B H σ E e b m => m.ct B H σ ρ h e b
theorem run_set {i : Nat} (h : EX c te ρ n d) (k : P.nx (ρ.set i (some (n, d)))) : Run c (tAsg te (gName i)) ρ P := fun B0 G B H σ E e b m =>
  h G B H σ e _ fun v H' R => by
    obtain ⟨B', e', T⟩ := e.bind i R
    exact m.nx B' H' _ _ k e' (b.step e.gh T)
theorem run_setG {up : Rho → Rho} (h : EX c te ρ 0 d) (hg : GT c g d up ws) (k : P.nx (up ρ)) : Run c (tAsg te g) ρ P := fun B0 G B H σ E e b m =>
  h.at0 e fun v B' H' T r e' => hg G B' H' σ ρ v _ e' r fun σ' e2 _ _ => m.nx B' H' σ' _ k e2 (b.step e.gh T)
theorem run_drop (h : EX c te ρ n d) (k : P.nx ρ) : Run c (tDrop te) ρ P := fun B0 G B H σ E e b m => h G B H σ e _ fun v H' ⟨B', S, T, _, _⟩ => m.nx B' H' σ ρ k (e.step T) (b.step e.gh T)
theorem run_ret (h : EX c te ρ n d) (k : P.rt n d) : Run c (tRet te) ρ P := fun B0 G B H σ E e b m => h G B H σ e _ fun v H' R => m.rt v H' n d k (b.res e.gh R)
/-- what the frame owns is handed back -/
theorem run_retV {i : Nat} (h : ρ[i]? = some (some (n, d))) (k : P.rt n d) : Run c (tRet (tVar i)) ρ P := fun B0 G B H σ E e b m => by
  obtain ⟨Ss, _, h2, h3⟩ := e.own
  obtain ⟨v, hv, ho⟩ := h3 i n d h
  exact ⟨v, hv, m.rt v H n d k ⟨B, Ss i, ⟨e.gh, b.1, e.bh, b.2⟩, h2 i, ho⟩⟩
theorem run_retN (k : P.rt 0 .non) : Run c tRetN ρ P := fun B0 G B H σ E e b m => m.rt .non H 0 .non k (b.res e.gh (.imm (.refl e.bh) .non))
theorem run_if {b : Bool} (h : ET c tt (cur ρ) b) (h1 : b = true → Run c t ρ P) (h2 : b = false → Run c u ρ P) : Run c (tIfS tt t u) ρ P := fun B0 G B H σ E e bb m =>
  h.ofCur G B H σ e _ fun H' x => by
    cases b with
    | true =>
      show t E σ H'
      exact h1 rfl B0 G B H' σ E (e.grow x) bb m
    | false =>
      show u E σ H'
      exact h2 rfl B0 G B H' σ E (e.grow x) bb m
theorem run_never (h : False) : Run c tNever ρ P := h.elim
/-- an entry is given up: nothing of it will be changed any more -/
theorem run_give {i : Nat} (h : ρ[i]? = some (some (n, d))) (k : Run c t (ρ.set i (some (0, d))) P) : Run c t ρ P := fun B0 G B H σ E e b m => by
  obtain ⟨B', e', x, y⟩ := e.give h
  exact k B0 G B' H σ E e' ⟨b.1.trans x, fun a o z => (y a o z).elim (b.2 a o) .inr⟩ m
theorem run_forget (ρ' : Rho) (hl : ρ'.length = ρ.length) (h : ∀ (i : Nat) (p : Nat × D), ρ'[i]? = some (some p) → ρ[i]? = some (some p)) (k : Run c t ρ' P) : Run c t ρ P := fun B0 G B H σ E e b m => k B0 G B H σ E (e.forget hl h) b m

/-! a list of the frame's own is changed -/
theorem Env.mut {G B H B' H' : Hp} {σ : St} {l n : Nat} {ds' : List D} {vs' : List V} {a : Addr} (E : Env c G B H σ ρ) (T : Step B H B' H') (hl : ρ[l]? = some (some (n + 1, .lst ds))) (ha : σ[l]? = some (some (.ref a)))
    (hS : ∀ vs S1, H a = some (.lst vs) → OwnL (Own c B H n) S1 vs ds → ¬ S1 a → OwnL (Own c B' H' n) S1 vs ds → ∃ S', OwnL (Own c B' H' n) S' vs' ds' ∧ ¬ S' a ∧ ∀ b, S' b → S1 b ∨ H b = none) : Env c G B' (upd H' a (.lst vs')) σ (ρ.set l (some (n + 1, .lst ds'))) := by
  obtain ⟨Ss, h1, h2, h3⟩ := E.own
  obtain ⟨v, hv, ho⟩ := h3 l _ _ hl
  rw [ha] at hv
  cases hv
  obtain ⟨a', vs, S1, e0, hH, hB, hO, hn, hS1⟩ := ho
  cases e0
  obtain ⟨S', k1, k2, k3'⟩ := hS vs S1 hH hO hn (hO.frame T.hB (fun b z => T.off (hO.thereE b z).1 (hO.thereE b z).2) fun b o z w => T.hH _ _ w)
  have k3 : ∀ b, S' b → Ss l b ∨ H b = none := fun b z => (k3' b z).elim (fun w => .inl ((hS1 b).mpr (.inr w))) .inr
  have hBa : B' a = none := T.off hB ⟨_, hH⟩
  have hsa : Ss l a := (hS1 a).mpr (.inl rfl)
  refine ⟨Ex.mut T.bh hBa, Ex.mut (E.gh.trans T.hH) (h2 l a hsa), by rw [List.length_set, E.len], fun j b => if j = l then b = a ∨ S' b else (Ss j b ∧ ∃ p, ρ[j]? = some (some p)), fun j k b z y => ?_, fun j b z => ?_, fun j m e q => ?_⟩
  · have old : ∀ m b, (Ss m b ∧ ∃ p, ρ[m]? = some (some p)) → ∃ o, H b = some o := fun m b ⟨t, ⟨p1, p2⟩, hp⟩ => by
      obtain ⟨u, _, hw⟩ := h3 m p1 p2 hp
      exact (hw.there b t).2
    have mine : ∀ b, (b = a ∨ S' b) → Ss l b ∨ H b = none := fun b z => z.elim (fun e => .inl (e ▸ hsa)) (k3 b)
    dsimp only at z y
    by_cases hj : j = l
    · by_cases hk : k = l
      · rw [hj, hk]
      · exfalso
        rw [if_pos hj] at z
        rw [if_neg hk] at y
        rcases mine b z with w | w
        · exact hk (h1 k l b y.1 w)
        · obtain ⟨o, ho⟩ := old k b y
          rw [w] at ho; cases ho
    · by_cases hk : k = l
      · exfalso
        rw [if_neg hj] at z
        rw [if_pos hk] at y
        rcases mine b y with w | w
        · exact hj (h1 j l b z.1 w)
        · obtain ⟨o, ho⟩ := old j b z
          rw [w] at ho; cases ho
      · rw [if_neg hj] at z
        rw [if_neg hk] at y
        exact h1 j k b z.1 y.1
  · dsimp only at z
    by_cases hj : j = l
    · rw [if_pos hj] at z
      rcases z with z | z
      · rw [z]; exact h2 l a hsa
      · rcases k3 b z with w | w
        · exact h2 l b w
        · exact Ex.back E.gh w
    · rw [if_neg hj] at z
      exact h2 j b z.1
  · by_cases hj : j = l
    · subst hj
      have hlt : j < ρ.length := by
        have := (List.getElem?_eq_some_iff.mp q).1
        rwa [List.length_set] at this
      rw [List.getElem?_set_self hlt] at q
      cases q
      refine ⟨_, ha, ?_⟩
      have e : (fun b => if j = j then b = a ∨ S' b else Ss j b ∧ ∃ p, ρ[j]? = some (some p)) = fun b => b = a ∨ S' b := by funext b; exact if_pos rfl
      show Own c B' _ (n + 1) (fun b => if j = j then b = a ∨ S' b else Ss j b ∧ ∃ p, ρ[j]? = some (some p)) _ _
      rw [e]
      refine ⟨a, vs', S', rfl, upd_same, hBa, k1.frame (Ex.refl _) (fun b z => (k1.thereE b z).1) (fun b o z w => ?_), k2, fun b => Iff.rfl⟩
      rw [upd_ne (fun e => by rw [e] at z; exact k2 z)]
      exact w
    · rw [List.getElem?_set_ne (Ne.symm hj)] at q
      obtain ⟨u, hu, hw⟩ := h3 j m e q
      refine ⟨u, hu, ?_⟩
      have e2 : (fun b => if j = l then b = a ∨ S' b else Ss j b ∧ ∃ p, ρ[j]? = some (some p)) = Ss j := by
        funext b
        rw [if_neg hj]
        exact propext ⟨fun z => z.1, fun z => ⟨z, ⟨_, q⟩⟩⟩
      show Own c B' _ m (fun b => if j = l then b = a ∨ S' b else Ss j b ∧ ∃ p, ρ[j]? = some (some p)) _ _
      rw [e2]
      refine hw.frame T.hB (fun b z => T.off (hw.there b z).1 (hw.there b z).2) fun b o z w => ?_
      rw [upd_ne (fun e => hj (h1 j l b z (by rw [e]; exact hsa)))]
      exact T.hH _ _ w
theorem Base.mut {B0 G B H B' H' : Hp} (b : Base B0 G B) (gh : Ex G H) (T : Step B H B' H') : Base B0 G B' := b.step gh T
theorem OwnL.nil_iff {p : (Addr → Prop) → V → D → Prop} {S : Addr → Prop} {vs : List V} {ds : List D} (h : OwnL p S vs ds) : True := trivial
/-- xs.append(e) -/
theorem run_app {l : Nat} (hl : ρ[l]? = some (some (n + 1, .lst ds))) (h : EX c te ρ n d) (hz : ds.length < 100000) (k : P.nx (ρ.set l (some (n + 1, .lst (ds ++ [d]))))) : Run c (tDrop (tBM c.K "list" rAppend (tVar l) (tCons te tNil))) ρ P := fun B0 G B H σ E e b m => by
  obtain ⟨Ss, _, _, h3⟩ := id e.own
  obtain ⟨v, hv, a, vs, S1, rfl, hH, hB, hO, hn, hS1⟩ := h3 l _ _ hl
  refine ⟨_, hv, .inl ⟨rfl, _, .of hH⟩, h G B H σ e _ fun y H' ⟨B', S, T, f, o⟩ => ?_⟩
  refine ⟨a, vs, y, rfl, rfl, T.hH _ _ hH, szl _ (by rw [OwnL.length hO]; exact hz), ?_⟩
  refine m.nx B' _ σ _ k (e.mut T hl hv fun vs2 S2 hH2 hO2 hn2 hF => ?_) (b.step e.gh T)
  rw [hH] at hH2
  cases hH2
  refine ⟨fun b => S2 b ∨ S b, OwnL.append (fun S S' v d e h => h.congr e) hF (OwnL.one o) fun b z q => ?_, fun z => ?_, fun b z => z.elim .inl fun q => .inr (f b q)⟩
  · obtain ⟨_, o', ho'⟩ := hO2.thereE b z
    rw [f b q] at ho'; cases ho'
  · rcases z with z | z
    · exact hn2 z
    · rw [f a z] at hH; cases hH
theorem OwnL.cut {p : (Addr → Prop) → V → D → Prop} : ∀ (k : Nat) {S : Addr → Prop} {vs : List V} {ds : List D}, OwnL p S vs ds → ∃ S1 S2, OwnL p S1 (vs.take k) (ds.take k) ∧ OwnL p S2 (vs.drop k) (ds.drop k) ∧ (∀ a, S1 a → ¬ S2 a) ∧ ∀ a, S a ↔ S1 a ∨ S2 a
  | 0, S, vs, ds, h => ⟨fun _ => False, S, by rw [List.take_zero, List.take_zero]; exact fun _ z => z, h, fun _ z => z.elim, fun a => ⟨.inr, fun z => z.elim (fun q => q.elim) id⟩⟩
  | k + 1, S, [], [], h => ⟨fun _ => False, S, fun _ z => z, h, fun _ z => z.elim, fun a => ⟨.inr, fun z => z.elim (fun q => q.elim) id⟩⟩
  | k + 1, S, v :: vs, d :: ds, ⟨S1, S2, h1, h2, h3, h4⟩ => by
    obtain ⟨T1, T2, g1, g2, g3, g4⟩ := OwnL.cut k h2
    refine ⟨fun a => S1 a ∨ T1 a, T2, ⟨S1, T1, h1, g1, fun a z q => h3 a z ((g4 a).mpr (.inl q)), fun a => Iff.rfl⟩, g2, fun a z q => ?_, fun a => ?_⟩
    · rcases z with z | z
      · exact h3 a z ((g4 a).mpr (.inr q))
      · exact g3 a z q
    · rw [h4 a, g4 a, or_assoc]
  | _ + 1, _, [], _ :: _, h => h.elim
  | _ + 1, _, _ :: _, [], h => h.elim
/-- xs.insert(i, e) -/
theorem run_ins {l : Nat} {i : Int} (hl : ρ[l]? = some (some (n + 1, .lst ds))) (hi : EX c ta ρ 0 (.int i)) (h : EX c te ρ n d) (h0 : 0 ≤ i) (h1 : i ≤ 100000) (hz : ds.length < 100000) (k : P.nx (ρ.set l (some (n + 1, .lst (ds.take i.toNat ++ [d] ++ ds.drop i.toNat))))) :
    Run c (tDrop (tBM c.K "list" zIns (tVar l) (tCons ta (tCons te tNil)))) ρ P := fun B0 G B H σ E e b m => by
  obtain ⟨Ss, _, _, h3⟩ := id e.own
  obtain ⟨v, hv, a, vs, S1, rfl, hH, hB, hO, hn, hS1⟩ := h3 l _ _ hl
  refine ⟨_, hv, .inl ⟨rfl, _, .of hH⟩, hi.int e fun B1 H1 T1 e1 => h G B1 H1 σ e1 _ fun y H' ⟨B', S, T2, f, o⟩ => ?_⟩
  have T : Step B H B' H' := T1.trans T2
  refine ⟨a, vs, i, y, rfl, rfl, T.hH _ _ hH, szl _ (by rw [OwnL.length hO]; exact hz), h0, by omega, ?_⟩
  refine m.nx B' _ σ _ k (e.mut T hl hv fun vs2 S2 hH2 hO2 hn2 hF => ?_) (b.step e.gh T)
  rw [hH] at hH2
  cases hH2
  obtain ⟨U1, U2, g1, g2, g3, g4⟩ := hF.cut i.toNat
  have f' : ∀ b, S b → H b = none := fun b z => Ex.back T1.hH (f b z)
  have dis : ∀ b, S2 b → ¬ S b := fun b z q => by
    obtain ⟨_, o', ho'⟩ := hO2.thereE b z
    rw [f' b q] at ho'; cases ho'
  refine ⟨fun b => (U1 b ∨ S b) ∨ U2 b, OwnL.append (fun S S' v d e h => h.congr e) (OwnL.append (fun S S' v d e h => h.congr e) g1 (OwnL.one o) fun b z q => dis b ((g4 b).mpr (.inl z)) q) g2 fun b z q => ?_, fun z => ?_, fun b z => ?_⟩
  · rcases z with z | z
    · exact g3 b z q
    · exact dis b ((g4 b).mpr (.inr q)) z
  · rcases z with (z | z) | z
    · exact hn2 ((g4 a).mpr (.inl z))
    · rw [f' a z] at hH; cases hH
    · exact hn2 ((g4 a).mpr (.inr z))
  · rcases z with (z | z) | z
    · exact .inl ((g4 b).mpr (.inl z))
    · exact .inr (f' b z)
    · exact .inl ((g4 b).mpr (.inr z))

/-! ### loops -/
theorem Base.trans {B0 B1 B2 G : Hp} (x : Base B0 G B1) (y : Base B1 G B2) : Base B0 G B2 := ⟨x.1.trans y.1, fun a o e => (y.2 a o e).elim (x.2 a o) .inr⟩
theorem Base.refl {B G : Hp} : Base B G B := ⟨Ex.refl B, fun _ _ e => .inl e⟩
theorem Base.res2 {B0 B1 G H' : Hp} {v : V} (x : Base B0 G B1) (R : Res c B1 G H' n v d) : Res c B0 G H' n v d := by
  obtain ⟨B', S, T, f, o⟩ := R
  exact ⟨B', S, ⟨T.hH, x.1.trans T.hB, T.bh, fun a o e => (T.new a o e).elim (x.2 a o) .inr⟩, f, o⟩
theorem Meets.up {B0 B1 G : Hp} {E : Ends} (x : Base B0 G B1) (m : Meets c B0 G P E) : Meets c B1 G P E :=
  ⟨fun B H σ ρ z e b => m.nx B H σ ρ z e (x.trans b), fun v H n d z R => m.rt v H n d z (x.res2 R), fun B H σ ρ z e b => m.bk B H σ ρ z e (x.trans b), fun B H σ ρ z e b => m.ct B H σ ρ z e (x.trans b)⟩
/-- for t in list: .. (I: by the turn, what the environment is) -/
theorem run_forL {α : Type} (xs : List α) (e : α → D) {up : α → Rho → Rho} {tb : TS} (I : Nat → Rho → Prop) (hl : EX c tl ρ 0 (.lst (xs.map e))) (hg : ∀ x, GT c g (e x) (up x) ws) (h0 : I 0 ρ)
    (hs : ∀ (i : Nat) (x : α) ρ', xs[i]? = some x → I i ρ' → Run c tb (up x ρ') { nx := I (i + 1), rt := P.rt, bk := P.nx, ct := I (i + 1) }) (hd : ∀ ρ', I xs.length ρ' → P.nx ρ') : Run c (tFor (iList c.K tl) g tb) ρ P := fun B0 G B H σ E e0 b m =>
  hl.at0 e0 fun v B1 H1 T1 r E1 => by
    obtain ⟨a, us, rfl, ha, hus⟩ := r.lst_inv
    have hlen : us.length = xs.length := by rw [hus.length, List.length_map]
    have b1 := b.step e0.gh T1
    refine ⟨a, rfl, ⟨us, .of (E1.bh _ _ ha)⟩, for_list (xs := us) (fun i σ' H' => ∃ ρ' B', I i ρ' ∧ Env c G B' H' σ' ρ' ∧ Base B1 G B') ⟨ρ, B1, h0, E1, .refl⟩ (fun i σ' H' _ ⟨ρ', B', _, e', b'⟩ => .of (e'.bh _ _ (b'.1 _ _ ha))) (fun i y σ' H' hy ⟨ρ', B', hI, e', b'⟩ => ?_) fun σ' H' ⟨ρ', B', hI, e', b'⟩ => ?_⟩
    · obtain ⟨d, hd', hr⟩ := hus.getV hy
      rw [List.getElem?_map] at hd'
      obtain ⟨x, hx, rfl⟩ := Option.map_eq_some_iff.mp hd'
      refine hg x G B' H' σ' ρ' y _ e' (hr.mono b'.1) fun σ2 e2 _ _ => ?_
      refine hs i x ρ' hx hI B1 G B' H' σ2 _ e2 b' ⟨?_, ?_, ?_, ?_⟩
      · exact fun B2 H2 σ3 ρ3 z e3 b3 => ⟨ρ3, B2, z, e3, b3⟩
      · exact fun v2 H2 n2 d2 z R => m.rt v2 H2 n2 d2 z (b1.res2 R)
      · exact fun B2 H2 σ3 ρ3 z e3 b3 => m.nx B2 H2 σ3 ρ3 z e3 (b1.trans b3)
      · exact fun B2 H2 σ3 ρ3 z e3 b3 => ⟨ρ3, B2, z, e3, b3⟩
    · rw [hlen] at hI
      exact m.nx B' H' σ' ρ' (hd ρ' hI) e' (b1.trans b')
/-- for t in a list of the frame's own, at the slot l, that the body leaves alone: within, the slot is told by its value -/
theorem run_forO {α : Type} {l : Nat} (xs : List α) (e : α → D) {up : α → Rho → Rho} {tb : TS} (I : V → Nat → Rho → Prop) (hl : ρ[l]? = some (some (1, .lst (xs.map e)))) (hg : ∀ x, GT c g (e x) (up x) ws) (h0 : ∀ v, I v 0 (ρ.set l (some (0, .raw v))))
    (hw : ∀ v i ρ', I v i ρ' → ρ'[l]? = some (some (0, .raw v))) (hs : ∀ v (i : Nat) (x : α) ρ', xs[i]? = some x → I v i ρ' → Run c tb (up x ρ') { nx := I v (i + 1), rt := P.rt, bk := fun _ => False, ct := I v (i + 1) }) (hd : ∀ v ρ', I v xs.length ρ' → P.nx (ρ'.set l (some (1, .lst (xs.map e))))) :
    Run c (tFor (iList c.K (tVar l)) g tb) ρ P := fun B0 G B H σ E e0 b m => by
  obtain ⟨Ss, s1, s2, s3⟩ := id e0.own
  obtain ⟨v, hv, a, us, S1, rfl, hH, hB, hO, hn, hS⟩ := s3 l 1 _ hl
  have hus : DRs c B us (xs.map e) := OwnL.drs (fun _ _ _ _ z => z.2) hO
  have hlen : us.length = xs.length := by rw [hus.length, List.length_map]
  have ha : Ss l a := (hS a).mpr (.inl rfl)
  have hGa : G a = none := s2 l a ha
  have hlt : l < ρ.length := (List.getElem?_eq_some_iff.mp hl).1
  have hGe : Ex G (upd G a (.lst us)) := Ex.new hGa
  have E1 : Env c (upd G a (.lst us)) B H σ (ρ.set l (some (0, .raw (.ref a)))) := by
    refine ⟨e0.bh, fun b o q => ?_, by rw [List.length_set, e0.len], fun j b => j ≠ l ∧ Ss j b, fun i j b z y => s1 i j b z.2 y.2, fun j b z => ?_, fun j n d q => ?_⟩
    · by_cases w : b = a
      · rw [w, upd_same] at q; rw [w]; cases q; exact hH
      · rw [upd_ne w] at q; exact e0.gh b o q
    · rw [upd_ne (fun w => z.1 (s1 j l b z.2 (by rw [w]; exact ha)))]
      exact s2 j b z.2
    · by_cases hj : j = l
      · subst hj
        rw [List.getElem?_set_self hlt] at q
        cases q
        exact ⟨_, hv, fun b z => z.1 rfl, .raw _⟩
      · rw [List.getElem?_set_ne (Ne.symm hj)] at q
        obtain ⟨u, hu, ho⟩ := s3 j n d q
        refine ⟨u, hu, ?_⟩
        have e2 : (fun b => j ≠ l ∧ Ss j b) = Ss j := by
          funext b
          exact propext ⟨fun z => z.2, fun z => ⟨hj, z⟩⟩
        show Own c B H n (fun b => j ≠ l ∧ Ss j b) u d
        rw [e2]
        exact ho
  refine ⟨_, hv, a, rfl, ⟨us, .of hH⟩, for_list (xs := us) (fun i σ' H' => ∃ ρ' B', I (.ref a) i ρ' ∧ Env c (upd G a (.lst us)) B' H' σ' ρ' ∧ Base B (upd G a (.lst us)) B') ⟨_, B, h0 _, E1, .refl⟩ (fun i σ' H' _ ⟨ρ', B', _, e', _⟩ => .of (e'.gh _ _ upd_same)) (fun i y σ' H' hy ⟨ρ', B', hI, e', b'⟩ => ?_) fun σ' H' ⟨ρ', B', hI, e', b'⟩ => ?_⟩
  · obtain ⟨d, hd', hr⟩ := hus.getV hy
    rw [List.getElem?_map] at hd'
    obtain ⟨x, hx, rfl⟩ := Option.map_eq_some_iff.mp hd'
    refine hg x _ B' H' σ' ρ' y _ e' (hr.mono b'.1) fun σ2 e2 _ _ => ?_
    refine hs _ i x ρ' hx hI B _ B' H' σ2 _ e2 b' ⟨?_, ?_, fun _ _ _ _ z => z.elim, ?_⟩
    · exact fun B2 H2 σ3 ρ3 z e3 b3 => ⟨ρ3, B2, z, e3, b3⟩
    · refine fun v2 H2 n2 d2 z ⟨B2, S2, T2, f2, o2⟩ => m.rt v2 H2 n2 d2 z (b.res2 ⟨B2, S2, ⟨hGe.trans T2.hH, T2.hB, T2.bh, fun b o q => (T2.new b o q).elim .inl fun w => .inr (Ex.back hGe w)⟩, fun b q => Ex.back hGe (f2 b q), o2⟩)
    · exact fun B2 H2 σ3 ρ3 z e3 b3 => ⟨ρ3, B2, z, e3, b3⟩
  · rw [hlen] at hI
    have hr := hw _ _ _ hI
    have hlt' : l < ρ'.length := (List.getElem?_eq_some_iff.mp hr).1
    obtain ⟨u, hu, hru⟩ := e'.look hr
    cases hru
    have hB' : B' a = none := by
      cases w : B' a with
      | none => rfl
      | some o =>
        rcases b'.2 a o w with q | q
        · rw [hB] at q; cases q
        · rw [upd_same] at q; cases q
    have bb : Base B0 G B' := b.trans ⟨b'.1, fun c o q => (b'.2 c o q).elim .inl fun w => .inr (Ex.back hGe w)⟩
    refine m.nx B' H' σ' _ (hd _ ρ' hI) ?_ bb
    obtain ⟨Ts, t1, t2, t3⟩ := e'.own
    have na : ∀ j, ¬ Ts j a := fun j z => by have := t2 j a z; rw [upd_same] at this; cases this
    refine ⟨e'.bh, hGe.trans e'.gh, by rw [List.length_set, e'.len], fun j b => if j = l then b = a else Ts j b, fun i j b z y => ?_, fun j b z => ?_, fun j n d q => ?_⟩
    · dsimp only at z y
      by_cases hi : i = l
      · by_cases hj : j = l
        · rw [hi, hj]
        · rw [if_pos hi] at z
          rw [if_neg hj, z] at y
          exact (na j y).elim
      · by_cases hj : j = l
        · rw [if_neg hi] at z
          rw [if_pos hj] at y
          rw [y] at z
          exact (na i z).elim
        · rw [if_neg hi] at z
          rw [if_neg hj] at y
          exact t1 i j b z y
    · dsimp only at z
      by_cases hj : j = l
      · rw [if_pos hj] at z; rw [z]; exact hGa
      · rw [if_neg hj] at z; exact Ex.back hGe (t2 j b z)
    · by_cases hj : j = l
      · subst hj
        rw [List.getElem?_set_self hlt'] at q
        cases q
        have e1 : (fun b => if j = j then b = a else Ts j b) = fun b => b = a := by funext b; exact if_pos rfl
        refine ⟨_, hu, ?_⟩
        show Own c B' H' 1 (fun b => if j = j then b = a else Ts j b) _ _
        rw [e1]
        exact ⟨a, us, fun _ => False, rfl, e'.gh _ _ upd_same, hB', OwnL.of_drs (hus.mono b'.1), fun z => z, fun b => ⟨.inl, fun z => z.elim id fun y => y.elim⟩⟩
      · rw [List.getElem?_set_ne (Ne.symm hj)] at q
        obtain ⟨u2, hu2, ho⟩ := t3 j n d q
        have e1 : (fun b => if j = l then b = a else Ts j b) = Ts j := by funext b; exact if_neg hj
        refine ⟨u2, hu2, ?_⟩
        show Own c B' H' n (fun b => if j = l then b = a else Ts j b) _ _
        rw [e1]
        exact ho
/-- for x in a tuple -/
theorem run_forT {α : Type} (xs : List α) (e : α → D) {up : α → Rho → Rho} {tb : TS} (I : Nat → Rho → Prop) (hl : EX c tl ρ 0 (.tup (xs.map e))) (hg : ∀ x, GT c g (e x) (up x) ws) (h0 : I 0 ρ)
    (hs : ∀ (i : Nat) (x : α) ρ', xs[i]? = some x → I i ρ' → Run c tb (up x ρ') { nx := I (i + 1), rt := P.rt, bk := P.nx, ct := I (i + 1) }) (hd : ∀ ρ', I xs.length ρ' → P.nx ρ') : Run c (tFor (iTup c.K tl) g tb) ρ P := fun B0 G B H σ E e0 b m =>
  hl.at0 e0 fun v B1 H1 T1 r E1 => by
    obtain ⟨a, us, rfl, ha, hus⟩ := r.tup_inv
    have hlen : us.length = xs.length := by rw [hus.length, List.length_map]
    have b1 := b.step e0.gh T1
    refine ⟨a, rfl, ⟨us, .of (E1.bh _ _ ha)⟩, for_tup (xs := us) (fun i σ' H' => ∃ ρ' B', I i ρ' ∧ Env c G B' H' σ' ρ' ∧ Base B1 G B') ⟨ρ, B1, h0, E1, .refl⟩ (fun i σ' H' _ ⟨ρ', B', _, e', b'⟩ => .of (e'.bh _ _ (b'.1 _ _ ha))) (fun i y σ' H' hy ⟨ρ', B', hI, e', b'⟩ => ?_) fun σ' H' ⟨ρ', B', hI, e', b'⟩ => ?_⟩
    · obtain ⟨d, hd', hr⟩ := hus.getV hy
      rw [List.getElem?_map] at hd'
      obtain ⟨x, hx, rfl⟩ := Option.map_eq_some_iff.mp hd'
      refine hg x G B' H' σ' ρ' y _ e' (hr.mono b'.1) fun σ2 e2 _ _ => ?_
      refine hs i x ρ' hx hI B1 G B' H' σ2 _ e2 b' ⟨?_, ?_, ?_, ?_⟩
      · exact fun B2 H2 σ3 ρ3 z e3 b3 => ⟨ρ3, B2, z, e3, b3⟩
      · exact fun v2 H2 n2 d2 z R => m.rt v2 H2 n2 d2 z (b1.res2 R)
      · exact fun B2 H2 σ3 ρ3 z e3 b3 => m.nx B2 H2 σ3 ρ3 z e3 (b1.trans b3)
      · exact fun B2 H2 σ3 ρ3 z e3 b3 => ⟨ρ3, B2, z, e3, b3⟩
    · rw [hlen] at hI
      exact m.nx B' H' σ' ρ' (hd ρ' hI) e' (b1.trans b')
/-- for k in range(m): .. (a negative end: no turn) -/
theorem run_forR {ta : TA} {mi : Int} {j : Nat} {tb : TS} (I : Nat → Rho → Prop) (hl : EA c ta (cur ρ) 0 [.int mi]) (hm : mi ≤ 100000) (hm2 : -100000 ≤ mi) (h0 : I 0 ρ)
    (hs : ∀ (i : Nat) ρ', (i : Int) < mi → I i ρ' → Run c tb (ρ'.set j (some (0, .int (i : Int)))) { nx := I (i + 1), rt := P.rt, bk := P.nx, ct := I (i + 1) }) (hd : ∀ ρ', I mi.toNat ρ' → P.nx ρ') : Run c (tFor (iRng1 ta) (gName j) tb) ρ P := fun B0 G B H σ E e0 b m =>
  hl.at0 e0.cur fun us B1 H1 T1 r _ => by
    cases r with
    | cons r r0 =>
      cases r0
      cases r
      have E1 := e0.grow T1.hH
      refine ⟨mi, rfl, by omega, by omega, for_range (lo := 0) (n := mi.toNat) (fun i σ' H' => ∃ ρ' B', I i ρ' ∧ Env c G B' H' σ' ρ' ∧ Base B G B') ⟨ρ, B, h0, E1, .refl⟩ (fun i σ' H' hi ⟨ρ', B', hI, e', b'⟩ => ?_) fun σ' H' ⟨ρ', B', hI, e', b'⟩ => ?_⟩
      · rw [Int.zero_add]
        refine gt_name (c := c) G B' H' σ' ρ' _ _ e' (.int _) fun σ2 e2 _ _ => ?_
        refine hs i ρ' (by omega) hI B G B' H' σ2 _ e2 b' ⟨?_, ?_, ?_, ?_⟩
        · exact fun B2 H2 σ3 ρ3 z e3 b3 => ⟨ρ3, B2, z, e3, b3⟩
        · exact fun v2 H2 n2 d2 z R => m.rt v2 H2 n2 d2 z (b.res2 R)
        · exact fun B2 H2 σ3 ρ3 z e3 b3 => m.nx B2 H2 σ3 ρ3 z e3 (b.trans b3)
        · exact fun B2 H2 σ3 ρ3 z e3 b3 => ⟨ρ3, B2, z, e3, b3⟩
      · exact m.nx B' H' σ' ρ' (hd ρ' hI) e' (b.trans b')
/-- while: W by a number that falls -/
theorem run_while {tb : TS} (W : Nat → Rho → Prop) (m0 : Nat) (h0 : W m0 ρ) (hs : ∀ m ρ', W m ρ' → ∃ b : Bool, ET c tt (cur ρ') b ∧
      (b = true → Run c tb ρ' { nx := fun ρ2 => ∃ m', m' < m ∧ W m' ρ2, rt := P.rt, bk := P.nx, ct := fun ρ2 => ∃ m', m' < m ∧ W m' ρ2 }) ∧ (b = false → P.nx ρ')) : Run c (tWhile tt tb) ρ P := fun B0 G B H σ E e0 b m =>
  ⟨fun k σ' H' => ∃ ρ' B', W k ρ' ∧ Env c G B' H' σ' ρ' ∧ Base B0 G B', ⟨m0, ρ, B, h0, e0, b⟩, fun k σ' H' ⟨ρ', B', w, e', b'⟩ => by
    obtain ⟨bb, ht, h1, h2⟩ := hs k ρ' w
    refine ht.ofCur G B' H' σ' e' _ fun H2 x => ?_
    cases bb with
    | true =>
      show ∃ N : St → Hp → Prop, _
      refine ⟨fun σ3 H3 => ∃ m', m' < k ∧ ∃ ρ3 B3, W m' ρ3 ∧ Env c G B3 H3 σ3 ρ3 ∧ Base B0 G B3, fun σ3 H3 ⟨m', hm, z⟩ => ⟨m', hm, z⟩, ?_⟩
      refine h1 rfl B0 G B' H2 σ' _ (e'.grow x) b' ⟨?_, m.rt, ?_, ?_⟩
      · exact fun B3 H3 σ3 ρ3 ⟨m', hm, w3⟩ e3 b3 => ⟨m', hm, ρ3, B3, w3, e3, b3⟩
      · exact fun B3 H3 σ3 ρ3 z e3 b3 => m.nx B3 H3 σ3 ρ3 z e3 b3
      · exact fun B3 H3 σ3 ρ3 ⟨m', hm, w3⟩ e3 b3 => ⟨m', hm, ρ3, B3, w3, e3, b3⟩
    | false =>
      show E.nx σ' H2
      exact m.nx B' H2 σ' ρ' (h2 rfl) (e'.grow x) b'⟩
end

/-! ### defs -/
/-- a def's promise: for every x that it may be asked of, from things that are told by args x a thing that is told by res x, owned to depth n -/
def spF {ι : Type} (c : Cfg) (args : ι → List D) (pre : ι → Prop) (n : Nat) (res : ι → D) : Sp := fun vs H Q _ => ∃ (x : ι) (B : Hp), pre x ∧ Ex B H ∧ DRs c B vs (args x) ∧ ∀ v H', Res c B H H' n v (res x) → Q v H'
section
variable {c : Cfg} {ι : Type} {args : ι → List D} {pre : ι → Prop} {n : Nat} {res : ι → D} {ρ : Rho} {ta : TA} {E : XK} {t : TS}
theorem ex_call (x : ι) (ha : EA c ta ρ 0 (args x)) (hp : pre x) : EX c (tCall (spF c args pre n res) [] E ta) ρ n (res x) := fun G B H σ e Q k => ha.at0 e fun vs B1 H1 T1 r e1 => ⟨x, B1, hp, e1.bh, by rw [List.append_nil]; exact r, fun v H' R => k v H' (.trans T1 R)⟩
theorem start_env {B H : Hp} {N : List Str} {vs : List V} {ds : List D} (e : Ex B H) (r : DRs c B vs ds) (hl : ds.length ≤ N.length) :
    Env c H B H (L2.start N vs) (ds.map (fun d => some (0, d)) ++ List.replicate (N.length - ds.length) none) := by
  refine ⟨e, Ex.refl H, ?_, fun _ _ => False, fun _ _ _ z => z.elim, fun _ _ z => z.elim, fun i n d h => ?_⟩
  · unfold L2.start
    rw [List.length_append, List.length_append, List.length_map, List.length_map, List.length_replicate, List.length_replicate, r.length]
  · by_cases hi : i < ds.length
    · rw [List.getElem?_append_left (by rw [List.length_map]; exact hi), List.getElem?_map, List.getElem?_eq_getElem hi] at h
      simp only [Option.map_some, Option.some.injEq, Prod.mk.injEq] at h
      obtain ⟨rfl, rfl⟩ := h
      obtain ⟨v, hv, hr⟩ := r.get (List.getElem?_eq_getElem hi)
      refine ⟨v, ?_, fun _ z => z, hr⟩
      unfold L2.start
      rw [List.getElem?_append_left (by rw [List.length_map, r.length]; exact hi), List.getElem?_map, hv]
      rfl
    · rw [List.getElem?_append_right (by rw [List.length_map]; omega), List.getElem?_replicate] at h
      split at h <;> cases h
theorem fn_run {N : List Str} {ρ0 : ι → Rho} (hρ : ∀ x, ρ0 x = (args x).map (fun d => some (0, d)) ++ List.replicate (N.length - (args x).length) none) (hl : ∀ x, (args x).length ≤ N.length)
    (h : ∀ x, pre x → Run c t (ρ0 x) { nx := fun _ => n = 0 ∧ res x = .non, rt := fun m d => m = n ∧ d = res x }) (vs : List V) (H : Hp) (Q : VK) (E : XK) (hs : spF c args pre n res vs H Q E) : t { nx := fun _ H' => Q .non H', rt := Q } (L2.start N vs) H := by
  obtain ⟨x, B, hp, e, r, k⟩ := hs
  refine h x hp B H B H _ _ (by rw [hρ x]; exact start_env e r (hl x)) .refl ⟨fun B' H' σ ρ z e' b => ?_, fun v H' m d z R => ?_, fun _ _ _ _ z => z.elim, fun _ _ _ _ z => z.elim⟩
  · obtain ⟨z1, z2⟩ := z
    refine k _ _ ?_
    rw [z1, z2]
    exact b.res e'.gh (.imm (.refl e'.bh) .non)
  · obtain ⟨z1, z2⟩ := z
    rw [z1, z2] at R
    exact k _ _ R
theorem spF_len {m : Nat} (hl : ∀ x, (args x).length = m) (vs : List V) (H : Hp) (Q : VK) (E : XK) (h : spF c args pre n res vs H Q E) : vs.length = m := by
  obtain ⟨x, B, _, _, r, _⟩ := h
  rw [r.length, hl]
end
end DL

/-! DBase4: defs of the text, callees; dicts with nested keys. -/
namespace DL
open PySem L2
/-- a def of the text, as the top has left it -/
structure DefAt (c : Cfg) (mg : Str → Option Value) (x : Str) (st : Stmt) : Prop where
  ex : ∃ f fd, Fun c.K x x st f fd ∧ mg x = some (.ref f)
/-- a def that may be called by its name -/
structure Callee (c : Cfg) (mg : Str → Option Value) (base : Heap) (x : Str) (k : Nat) (ps : List Str) (sp : Sp) : Prop where
  ex : ∃ f fd, FnOk c.P c.w c.K mg base CX0 k f fd ps sp ∧ mg x = some (.ref f) ∧ PySem.W.keepIn c.K (.ref f) = true ∧ Binds c.K fd ps []
/-- the context of a def's body -/
abbrev bodyCx (c : Cfg) (mg : Str → Option Value) (base : Heap) (N : List Str) (x : Str) (st : Stmt) (f : Addr) (cdv : Value) (A : Around) (outer : List PySem.Env) (s : Shared) (H : Hp) (E : XK) : Cx := (cxOf CX0 c.P c.w c.K mg base N x (defScope st) f cdv A outer s H E).nox
theorem callee_of {c : Cfg} {mg : Str → Option Value} {base : Heap} {x : Str} {st : Stmt} {N ps : List Str} {k : Nat} {sp : Sp} {t : TS} (D : DefAt c mg x st) (S : FnScope N ps (defScope st)) (len : ∀ vs H Q E, sp vs H Q E → vs.length = ps.length)
    (hb : ∀ (kV doc pm : Value) (an : Option Addr) (cdv ct : Value) (us : List Value), us.length = ps.length → bindArgs (PySem.W.fnOf x x (defArgs st) (defBody st) (defScope st) .none kV doc pm an cdv ct) ⟨us, []⟩ = pure (ps.zip us))
    (body : ∀ f cdv A outer s H E, Room k (A.deeper (PyProof.Rows.envOfC x (defScope st) s.heap.objs.size f cdv)) → PSs (bodyCx c mg base N x st f cdv A outer s H E) (defBody st) t)
    (pure : ∀ vs H Q E, sp vs H Q E → t { nx := fun _ H' => Q .non H', rt := Q } (L2.start N vs) H) : Callee c mg base x (k + 1) ps sp := by
  obtain ⟨f, fd, F, g⟩ := D.ex
  exact ⟨f, fd, F.ok S len fun cdv A outer s H vs Q E hr h => ⟨t, body f cdv A outer s H E hr, pure vs H Q E h⟩, g, F.kp, F.binds hb⟩
/-- a call's arguments are asked one by one, none of them starred -/
structure OneByOne (X : Cx) (e : Expr) (es : List Expr) (pos : Pos) : Prop where
  each : starEach (e :: es) X.env = (false, eval e X.env) :: starEach es X.env
  bare : (backTo pos (starEach es X.env)).any (·.1) = false
theorem pe_callD {c : Cfg} {X : Cx} {x : Str} {k : Nat} {ps : List Str} {sp : Sp} {e : Expr} {es : List Expr} {t : TA} {p pos : Pos} (h : Callee c X.mg X.base x k ps sp) (eP : X.prog = c.P) (ew : X.w = c.w) (eK : X.K = c.K) (hr : Room k X.A) (hg : Gl X x) (ha : PA X (e :: es) t)
    (ob : OneByOne X e es pos := by exact ⟨rfl, rfl⟩) (hdb : (x == ("__debug__" : Str)) = false := by decide) :
    PE X (.Call (.Name x p) (e :: es) [] pos) (tCall sp [] E0 t) := by
  obtain ⟨f, fd, F, g, kp, b⟩ := h.ex
  rw [← eP, ← ew, ← eK] at F
  rw [← eK] at kp b
  exact pe_call F hr hg g kp b .nil pass0 ha hdb ob.each ob.bare
end DL

/-! DBase5: dicts whose keys are nested tuples of ints. -/
namespace DL
open PySem L2
section
variable {P : Program} {w : World} {H : Hp} {h : Heap} {c : Cfg}
mutual
theorem DR.nested (ok : HOk P w H h) : ∀ {d : D} {v : V} {u : Value}, DR c H v d → D.kok d = true → RelV v u → NestedIs h d.key u
  | .int i, _, u, r, _, ru => by
    cases r.int_inv
    obtain ⟨t, rfl⟩ := ru
    rw [D.key]
    exact .int i t
  | .tup ds, _, u, r, k, ru => by
    obtain ⟨a, vs, rfl, ha, hs⟩ := r.tup_inv
    obtain rfl : u = .ref a := ru
    obtain ⟨_, its, rv, o, h1, h2, n, h3⟩ := (show ObjOk P w H h a (.tup vs) from ok a _ ha)
    rw [D.key]
    rw [D.kok] at k
    exact .tup h1 h2 h3 (by simpa using DRs.nested ok hs k rv)
  | .non, _, _, _, k, _ => by rw [D.kok] at k; cases k
  | .bl _, _, _, _, k, _ => by rw [D.kok] at k; cases k
  | .lst _, _, _, _, k, _ => by rw [D.kok] at k; cases k
  | .obj _, _, _, _, k, _ => by rw [D.kok] at k; cases k
  | .dic _, _, _, _, k, _ => by rw [D.kok] at k; cases k
  | .scr _, _, _, _, k, _ => by rw [D.kok] at k; cases k
  | .fix _, _, _, _, k, _ => by rw [D.kok] at k; cases k
  | .raw _, _, _, _, k, _ => by rw [D.kok] at k; cases k
theorem DRs.nested (ok : HOk P w H h) : ∀ {ds : List D} {vs : List V} {us : List Value}, DRs c H vs ds → D.koks ds = true → Vals vs us → NestedAll h (D.keys ds) us
  | [], _, _, r, _, rv => by
    cases r
    cases rv
    rw [D.keys]
    exact .nil
  | d :: ds, _, _, r, k, rv => by
    cases r with
    | cons r rs =>
      cases rv with
      | cons q qs =>
        rw [D.keys]
        rw [D.koks, Bool.and_eq_true] at k
        exact .cons (DR.nested ok r k.1 q) (DRs.nested ok rs k.2 qs)
end
theorem DR.isKey (ok : HOk P w H h) {d : D} {a : Addr} (r : DR c H (.ref a) d) (k : D.ktop d = true) : (nestedKind P w).is h d.key a := by
  cases d with
  | tup xs =>
    unfold D.ktop at k
    rw [Bool.and_eq_true, decide_eq_true_eq] at k
    exact ⟨r.nested ok (by rw [D.kok]; exact k.1) rfl, k.2⟩
  | _ => cases k
/-- the keys' own tuples -/
structure Keyed (c : Cfg) (H : Hp) (xs : List (NestedKey × Addr × V)) (ds : List D) : Prop where
  rs : DRs c H (xs.map fun x => V.ref x.2.1) ds
  ks : xs.map (·.1) = ds.map D.key
  ok : ds.all D.ktop = true
theorem Keyed.mono {H' : Hp} {xs : List (NestedKey × Addr × V)} {ds : List D} (e : Ex H H') (k : Keyed c H xs ds) : Keyed c H' xs ds := ⟨k.rs.mono e, k.ks, k.ok⟩
theorem Keyed.is {xs : List (NestedKey × Addr × V)} : ∀ {ds : List D}, HOk P w H h → Keyed c H xs ds → ∀ x ∈ xs, (nestedKind P w).is h x.1 x.2.1 := by
  induction xs with
  | nil => intro ds _ _ x hx; cases hx
  | cons y ys ih =>
    intro ds ok k x hx
    obtain ⟨rs, ks, ko⟩ := k
    cases ds with
    | nil => cases rs
    | cons d ds =>
      cases rs with
      | cons r rs =>
        simp only [List.map_cons, List.cons.injEq] at ks
        rw [List.all_cons, Bool.and_eq_true] at ko
        rcases List.mem_cons.mp hx with e | hx
        · rw [e, ks.1]
          exact r.isKey ok ko.1
        · exact ih ok ⟨rs, ks.2, ko.2⟩ x hx
theorem paired_is {xs : List (NestedKey × Addr × V)} {ys : List (NestedKey × Addr × Value)} {R : NestedKey → Addr → Prop} (p : Paired (fun (p : NestedKey × Addr × V) (q : NestedKey × Addr × Value) => p.1 = q.1 ∧ p.2.1 = q.2.1 ∧ RelV p.2.2 q.2.2) xs ys)
    (hx : ∀ x ∈ xs, R x.1 x.2.1) : ∀ y ∈ ys, R y.1 y.2.1 := by
  induction p with
  | nil => intro y hy; cases hy
  | cons e t ih =>
    intro y hy
    rcases List.mem_cons.mp hy with q | hy
    · rw [q, ← e.1, ← e.2.1]
      exact hx _ List.mem_cons_self
    · exact ih (fun x hx' => hx x (List.mem_cons_of_mem _ hx')) y hy
theorem paired_kv {xs : List (NestedKey × Addr × V)} {ys : List (NestedKey × Addr × Value)} (p : Paired (fun (p : NestedKey × Addr × V) (q : NestedKey × Addr × Value) => p.1 = q.1 ∧ p.2.1 = q.2.1 ∧ RelV p.2.2 q.2.2) xs ys) :
    KV (xs.map fun x => (x.1, x.2.2)) (pairsH ys) := by
  induction p with
  | nil => exact .nil
  | cons e t ih => exact .cons ⟨e.1, e.2.2⟩ ih
theorem dn_of {a : Addr} {xs : List (NestedKey × Addr × V)} {ds : List D} (ok : HOk P w H h) (e : H a = some (dnO P w a xs)) (k : Keyed c H xs ds) : xs.length ≤ sizeLine ∧ (a == sysModules) = false ∧
    ∃ ys, Paired (fun (p : NestedKey × Addr × V) (q : NestedKey × Addr × Value) => p.1 = q.1 ∧ p.2.1 = q.2.1 ∧ RelV p.2.2 q.2.2) xs ys ∧ h.DictOfH (nestedKind P w) a ys := by
  obtain ⟨⟨z, y, ys, r, o, es, ep, h1, h2, h3, h4, h5⟩, _, _⟩ := (show ObjOk P w H h a (dnO P w a xs) from ok a _ e)
  exact ⟨z, y, ys, r, o, es, ep, h1, h2, h3, h4, paired_is r (k.is ok), h5⟩
def putX (k : NestedKey) (v : V) (x : NestedKey × Addr × V) : NestedKey × Addr × V := if x.1 = k then (x.1, x.2.1, v) else x
def storedX (xs : List (NestedKey × Addr × V)) (k : NestedKey) (a : Addr) (v : V) : List (NestedKey × Addr × V) := if (valV (xs.map fun x => (x.1, x.2.2)) k).isSome = true then xs.map (putX k v) else xs ++ [(k, a, v)]
theorem storedX_kv (xs : List (NestedKey × Addr × V)) (k : NestedKey) (a : Addr) (v : V) : (storedX xs k a v).map (fun x => (x.1, x.2.2)) = putK (xs.map fun x => (x.1, x.2.2)) k v := by
  have e : (valV (xs.map fun x => (x.1, x.2.2)) k).isSome = (xs.map fun x => (x.1, x.2.2)).any fun kv => decide (kv.1 = k) := by
    unfold valV
    rw [Option.isSome_map, Bool.eq_iff_iff, List.find?_isSome, List.any_eq_true]
  unfold storedX putK
  rw [e]
  split
  · rw [List.map_map, List.map_map]
    refine List.map_congr_left fun x _ => ?_
    by_cases q : x.1 = k <;> simp [putX, q]
  · simp
theorem storedX_len (xs : List (NestedKey × Addr × V)) (k : NestedKey) (a : Addr) (v : V) : (storedX xs k a v).length ≤ xs.length + 1 := by
  unfold storedX
  split
  · rw [List.length_map]; omega
  · rw [List.length_append]; simp
end
/-! ### the operations -/
section
variable {c : Cfg} {X : Cx} {pins : List (Addr × Obj)} {σ : St} {H : Hp} {s : Shared} {a b : Addr} {xs : List (NestedKey × Addr × V)} {ds : List D} {d : D} {v : V} {r : Value} {A : Around} {E : Value → Shared → Prop}
theorem paired_st {ys : List (NestedKey × Addr × Value)} (p : Paired (fun (p : NestedKey × Addr × V) (q : NestedKey × Addr × Value) => p.1 = q.1 ∧ p.2.1 = q.2.1 ∧ RelV p.2.2 q.2.2) xs ys) (k : NestedKey) (rv : RelV v r) :
    Paired (fun (p : NestedKey × Addr × V) (q : NestedKey × Addr × Value) => p.1 = q.1 ∧ p.2.1 = q.2.1 ∧ RelV p.2.2 q.2.2) (storedX xs k b v) (storedH ys k b r) := by
  have e : (valV (xs.map fun x => (x.1, x.2.2)) k).isSome = (atKey ys k).isSome := by
    have q := (paired_kv p).val k
    rw [valueAt_pairsH] at q
    rw [q.isSome_eq, Option.isSome_map]
  unfold storedX storedH
  rw [e]
  split
  · rename_i hh
    clear e hh
    induction p with
    | nil => exact .nil
    | @cons x y xs ys h t ih =>
      refine .cons ?_ ih
      unfold putX putAt
      rw [← h.1]
      by_cases q : x.1 = k
      · rw [if_pos q, if_pos q]
        exact ⟨h.1 ▸ rfl, h.2.1, rv⟩
      · rw [if_neg q, if_neg q]
        exact h
  · rename_i hh
    clear e hh
    induction p with
    | nil => exact .cons ⟨rfl, rfl, rv⟩ .nil
    | cons h t ih => exact .cons h ih
theorem n_get {Q : Value → Shared → Prop} (hu : A.units + 64 < cLine) (I : Inv X pins σ H s) (e : H a = some (dnO X.prog X.w a xs)) (k : Keyed c H xs ds) (rb : DR c H (.ref b) d) (kt : D.ktop d = true) (hv : valV (xs.map fun x => (x.1, x.2.2)) d.key = some v)
    (h : ∀ w' s', Inv X pins σ H s' → RelV v w' → Q w' s') : wpAny (model X.prog X.w) A (getItem (.ref a) (.ref b)) Q E s := by
  obtain ⟨z, hd, ys, p, dd⟩ := dn_of I.hok e k
  have q := (paired_kv p).val d.key
  rw [hv] at q
  obtain ⟨w', hw, rw'⟩ := q.some_of
  exact getItem_keyed (knd := nestedKind X.prog X.w) (show A.in1.units + 8 < cLine by show A.units + 1 + 8 < cLine; omega) (rb.isKey I.hok kt) ⟨ys, dd, rfl⟩ hw (h w' _ (I.tok _) rw')
theorem n_in {Q : Value → Shared → Prop} (hu : A.units + 64 < cLine) (I : Inv X pins σ H s) (e : H a = some (dnO X.prog X.w a xs)) (k : Keyed c H xs ds) (rb : DR c H (.ref b) d) (kt : D.ktop d = true)
    (h : ∀ s', Inv X pins σ H s' → Q (.bool (valV (xs.map fun x => (x.1, x.2.2)) d.key).isSome) s') : wpAny (model X.prog X.w) A (compareOp .In (.ref b) (.ref a)) Q E s := by
  obtain ⟨z, hd, ys, p, dd⟩ := dn_of I.hok e k
  refine in_keyed (knd := nestedKind X.prog X.w) (show A.in1.units + 8 < cLine by show A.units + 1 + 8 < cLine; omega) (rb.isKey I.hok kt) hd ⟨ys, dd, rfl⟩ ?_
  rw [← ((paired_kv p).val d.key).isSome_eq]
  exact h _ (I.tok _)
theorem n_notIn {Q : Value → Shared → Prop} (hu : A.units + 64 < cLine) (I : Inv X pins σ H s) (e : H a = some (dnO X.prog X.w a xs)) (k : Keyed c H xs ds) (rb : DR c H (.ref b) d) (kt : D.ktop d = true)
    (h : ∀ s', Inv X pins σ H s' → Q (.bool (!(valV (xs.map fun x => (x.1, x.2.2)) d.key).isSome)) s') : wpAny (model X.prog X.w) A (compareOp .NotIn (.ref b) (.ref a)) Q E s := by
  obtain ⟨z, hd, ys, p, dd⟩ := dn_of I.hok e k
  refine notIn_keyed (knd := nestedKind X.prog X.w) (show A.in1.units + 8 < cLine by show A.units + 1 + 8 < cLine; omega) (rb.isKey I.hok kt) hd ⟨ys, dd, rfl⟩ ?_
  rw [← ((paired_kv p).val d.key).isSome_eq]
  exact h _ (I.tok _)
theorem n_len {Q : Value → Shared → Prop} (I : Inv X pins σ H s) (e : H a = some (dnO X.prog X.w a xs)) (k : Keyed c H xs ds) (h : ∀ t s', Inv X pins σ H s' → Q (.int xs.length t) s') : wpAny (model X.prog X.w) A (call (.builtin "len") [.ref a]) Q E s := by
  obtain ⟨z, hd, ys, p, dd⟩ := dn_of I.hok e k
  have hl : (pairsH ys).length = xs.length := by rw [pairsH_length, ← Paired.length p]
  have hm : s.heap.DictKeyed (nestedKind X.prog X.w) a (pairsH ys) := ⟨ys, dd, rfl⟩
  refine PyProof.Rows.call_len_slot (n := (xs.length : Int)) hm.typeIs PySem.F.slot_dict_len (fun Q' hq => len_keyed hd hm (by rw [hl]; exact hq)) (by omega) (by rw [sizeLine_eq] at z; omega) ?_
  exact h _ _ (I.tok _)
theorem n_set {Q : Unit → Shared → Prop} (hu : A.units + 64 < cLine) (I : Inv X pins σ H s) (e : H a = some (dnO X.prog X.w a xs)) (k : Keyed c H xs ds) (rb : DR c H (.ref b) d) (kt : D.ktop d = true) (hl : xs.length < sizeLine) (rv : RelV v r)
    (h : ∀ s', Inv X pins σ (upd H a (dnO X.prog X.w a (storedX xs d.key b v))) s' → Q () s') : wpAny (model X.prog X.w) A (setItem (.ref a) (.ref b) r) Q E s := by
  obtain ⟨z, hd, ys, p, dd⟩ := dn_of I.hok e k
  have size : ys.length ≤ sizeLine := Paired.length p ▸ z
  have more : (storedX xs d.key b v).length ≤ sizeLine := Nat.le_trans (storedX_len xs d.key b v) hl
  have room : A.in1.units + 8 < cLine := by show A.units + 1 + 8 < cLine; omega
  apply wpAny_setItem_heap (knd := nestedKind X.prog X.w) (hsz := size) room (rb.isKey I.hok kt) dd
  rintro heap ⟨ob, els, eps, there, w2, w3, w4, -, w6⟩ others
  apply h
  refine d_write I (by rw [e]; exact True.intro) others ⟨ob, there⟩ ⟨⟨more, hd, _, paired_st p d.key rv, ob, els, eps, there, w2, w3, w4, w6⟩, ⟨ob, there⟩, ?_⟩
  rintro _ _ ⟨g1, g2, gs, g3, go, ge, gp, g4, g5⟩ keep
  exact ⟨g1, g2, gs, g3, go, ge, gp, keep go g4, g5⟩
theorem dn_empty {P : Program} {w : World} {H : Hp} (h : Heap) (hb : sysModules < h.objs.size) : ObjOk P w H (h.push { cls := .type "dict", data := .dict #[] }) h.objs.size (dnO P w h.objs.size []) := by
  have there : (h.push { cls := .type "dict", data := .dict #[] }).get? h.objs.size = some { cls := .type "dict", data := .dict #[] } := Heap.get?_push_size _ rfl
  have apart : (h.objs.size == sysModules) = false := beq_false_of_ne (Nat.ne_of_gt hb)
  refine ⟨⟨Nat.zero_le _, apart, [], .nil, _, #[], 0, there, ⟨rfl, rfl, rfl⟩, rfl, rfl, List.nodup_nil⟩, ⟨_, there⟩, ?_⟩
  rintro _ _ ⟨g1, g2, gs, g3, go, ge, gp, g4, g5⟩ keep
  exact ⟨g1, g2, gs, g3, go, ge, gp, keep go g4, g5⟩
end

/-! ### readings and rules -/
def tNNew (c : Cfg) : TE := fun _ H Q => ∀ p, H p = none → Q (.ref p) (upd H p (dnO c.P c.w p []))
/-- the dict x, the key y -/
def NKey (c : Cfg) (H : Hp) (x y : V) (a : Addr) (xs : List (NestedKey × Addr × V)) (ds : List D) (b : Addr) (d : D) : Prop := x = .ref a ∧ H a = some (dnO c.P c.w a xs) ∧ Keyed c H xs ds ∧ y = .ref b ∧ DR c H (.ref b) d ∧ D.ktop d = true
theorem NKey.opened {c : Cfg} {X : Cx} {H : Hp} {x y : V} {a b : Addr} {xs : List (NestedKey × Addr × V)} {ds : List D} {d : D} {u w : Value} (n : NKey c H x y a xs ds b d) (eP : X.prog = c.P) (ew : X.w = c.w) (ru : RelV x u) (rw_ : RelV y w) :
    u = .ref a ∧ w = .ref b ∧ H a = some (dnO X.prog X.w a xs) ∧ Keyed c H xs ds ∧ DR c H (.ref b) d ∧ D.ktop d = true := by
  obtain ⟨e1, e2, e3, e4, e5, e6⟩ := n
  rw [e1] at ru
  rw [e4] at rw_
  rw [eP, ew]
  exact ⟨ru, rw_, e2, e3, e5, e6⟩
def tNGet (c : Cfg) (td ty : TE) : TE := fun σ H Q => td σ H fun x H1 => ty σ H1 fun y H2 => ∃ a xs ds b d v, NKey c H2 x y a xs ds b d ∧ valV (xs.map fun x => (x.1, x.2.2)) d.key = some v ∧ Q v H2
def tNIn (c : Cfg) (ty td : TE) : TE := fun σ H Q => ty σ H fun y H1 => td σ H1 fun x H2 => ∃ a xs ds b d, NKey c H2 x y a xs ds b d ∧ Q (.bl (valV (xs.map fun x => (x.1, x.2.2)) d.key).isSome) H2
def tNNotIn (c : Cfg) (ty td : TE) : TE := fun σ H Q => ty σ H fun y H1 => td σ H1 fun x H2 => ∃ a xs ds b d, NKey c H2 x y a xs ds b d ∧ Q (.bl (!(valV (xs.map fun x => (x.1, x.2.2)) d.key).isSome)) H2
def sNPut (c : Cfg) (td ty tv : TE) : TS := fun D σ H => tv σ H fun v H1 => td σ H1 fun x H2 => ty σ H2 fun y H3 => ∃ a xs ds b d, NKey c H3 x y a xs ds b d ∧ xs.length < sizeLine ∧ D.nx σ (upd H3 a (dnO c.P c.w a (storedX xs d.key b v)))
def rLenN (c : Cfg) : List V → Hp → VK → Prop := fun vs H Q => ∃ a xs ds, vs = [.ref a] ∧ H a = some (dnO c.P c.w a xs) ∧ Keyed c H xs ds ∧ Q (.int (xs.length : Int)) H
section
variable {c : Cfg} {X : Cx} {o i value : Expr} {td ty tv : TE} {pos pos' : Pos}
theorem pe_ndnew (eP : X.prog = c.P := by rfl) (ew : X.w = c.w := by rfl) : PE X (.Dict [] [] pos) (tNNew c) := ⟨fun pins s σ H Q I h => by
  refine wpAny_Dict_empty ⟨.ref s.heap.objs.size, _, I.laid (a := s.heap.objs.size) (o := dnO X.prog X.w s.heap.objs.size []) (t' := s.toks) (fun _ _ q => Heap.get?_push_of_some _ q) (Nat.le_refl _) (dn_empty s.heap I.big), rfl, ?_⟩
  rw [eP, ew]
  exact h _ (I.hok.fresh (Nat.le_refl _))⟩
theorem pe_ngetD (hu : X.A.units + 64 < cLine) (ho : PE X o td) (hi : PE X i ty) (hs : NoSl i := by exact fun _ _ => rfl) (eP : X.prog = c.P := by rfl) (ew : X.w = c.w := by rfl) : PE X (.Subscript o i pos) (tNGet c td ty) := by
  constructor
  intro pn st sl B K J w
  apply subD_of PySem.F.slot_dict_getitem.lookup hs
  apply thn (ho.run pn st sl B _ J w)
  rintro du st1 ⟨x, B1, J1, rd, w1⟩
  apply thn (hi.run pn st1 sl B1 _ J1 w1)
  rintro ku st2 ⟨y, B2, J2, rk, a, xs, ds, b, d, v, nk, at_, w2⟩
  obtain ⟨eu, ek, dob, kd, kr, kt⟩ := nk.opened eP ew rd rk
  rw [eu, ek]
  have ty := (dn_of J2.hok dob kd).2.2.choose_spec.2.typeIs
  exact ⟨ty, n_get hu J2 dob kd kr kt at_ fun got st3 J3 rg => ⟨v, B2, J3, rg, w2⟩⟩
theorem pc_ninD (hu : X.A.units + 64 < cLine) (hi : PE X i ty) (ho : PE X o td) (eP : X.prog = c.P := by rfl) (ew : X.w = c.w := by rfl) : PC X .In i o (tNIn c ty td) := by
  constructor
  intro pn st sl B K J w
  apply thn (hi.run pn st sl B _ J w)
  rintro ku st1 ⟨y, B1, J1, rk, w1⟩
  apply thn (ho.run pn st1 sl B1 _ J1 w1)
  rintro du st2 ⟨x, B2, J2, rd, a, xs, ds, b, d, nk, w2⟩
  obtain ⟨eu, ek, dob, kd, kr, kt⟩ := nk.opened eP ew rd rk
  rw [eu, ek]
  exact n_in hu J2 dob kd kr kt fun st3 J3 => ⟨.bl _, B2, J3, rfl, w2⟩
theorem pc_nnotinD (hu : X.A.units + 64 < cLine) (hi : PE X i ty) (ho : PE X o td) (eP : X.prog = c.P := by rfl) (ew : X.w = c.w := by rfl) : PC X .NotIn i o (tNNotIn c ty td) := by
  constructor
  intro pn st sl B K J w
  apply thn (hi.run pn st sl B _ J w)
  rintro ku st1 ⟨y, B1, J1, rk, w1⟩
  apply thn (ho.run pn st1 sl B1 _ J1 w1)
  rintro du st2 ⟨x, B2, J2, rd, a, xs, ds, b, d, nk, w2⟩
  obtain ⟨eu, ek, dob, kd, kr, kt⟩ := nk.opened eP ew rd rk
  rw [eu, ek]
  exact n_notIn hu J2 dob kd kr kt fun st3 J3 => ⟨.bl _, B2, J3, rfl, w2⟩
theorem ps_nput (hu : X.A.units + 64 < cLine) (ho : PE X o td) (hi : PE X i ty) (hv : PE X value tv) (hs : swapsWith value (some (.Subscript o i pos')) pos.line X.env = pure false) (eP : X.prog = c.P := by rfl) (ew : X.w = c.w := by rfl) :
    PS X (.Assign [.Subscript o i pos'] value pos) (sNPut c td ty tv) := by
  constructor
  intro pn st sl B K J w
  apply wpAny_Assign_Subscript _ hs
  apply thn (hv.run pn st sl B _ J w)
  rintro vu st1 ⟨v, B1, J1, rv, w1⟩
  apply thn (ho.run pn st1 sl B1 _ J1 w1)
  rintro du st2 ⟨x, B2, J2, rd, w2⟩
  apply thn (hi.run pn st2 sl B2 _ J2 w2)
  rintro ku st3 ⟨y, B3, J3, rk, a, xs, ds, b, d, nk, most, w3⟩
  obtain ⟨eu, ek, dob, kd, kr, kt⟩ := nk.opened eP ew rd rk
  rw [eu, ek]
  apply n_set hu J3 dob kd kr kt most rv
  intro st4 J4
  rw [eP, ew] at J4
  exact ⟨sl, _, J4, w3⟩
theorem c_lenN (c : Cfg) (eP : X.prog = c.P := by rfl) (ew : X.w = c.w := by rfl) : CallR X (.builtin "len") (rLenN c) := by
  intro pins s σ H vs us Q I rv h
  obtain ⟨a, xs, ds, rfl, e1, e2, q⟩ := h
  cases rv with
  | cons r rr =>
    cases rr
    cases r
    rw [← eP, ← ew] at e1
    exact n_len I e1 e2 fun t s' I' => ⟨.int _, H, I', ⟨t, rfl⟩, q⟩
end
/-! ### what they give -/
section
variable {c : Cfg} {ρ : Rho} {n : Nat} {d : D} {ds : List D} {ta tb te td ty tv : TE} {P : Posts} {kvs : List (NestedKey × V)}
theorem ex_nnew : EX c (tNNew c) ρ 1 (.dic []) := fun G B H σ E Q k => fun p hp => by
  refine k _ _ ⟨B, fun a => a = p, .grow E.bh (Ex.new hp), fun a z => by rw [z]; exact hp, p, [], [], rfl, upd_same, Ex.back E.bh hp, .nil, rfl, rfl, rfl, fun b => Iff.rfl⟩
theorem DR.dic_inv {H : Hp} {v : V} (h : DR c H v (.dic kvs)) : ∃ a xs ds, v = .ref a ∧ H a = some (dnO c.P c.w a xs) ∧ Keyed c H xs ds ∧ kvs = xs.map fun x => (x.1, x.2.2) := by
  cases h with
  | dic h hs hk ho => exact ⟨_, _, _, rfl, h, ⟨hs, hk, ho⟩, rfl⟩
theorem DR.ktop_ref {H : Hp} {v : V} (h : DR c H v d) (k : D.ktop d = true) : ∃ b, v = .ref b := by
  cases h with
  | tup => exact ⟨_, rfl⟩
  | _ => cases k
/-- flat values as the program's own -/
def D.ofV : V → Option D
  | .non => some .non
  | .bl b => some (.bl b)
  | .int i => some (.int i)
  | _ => none
theorem ex_nget {v : V} (hd : EX c td ρ 0 (.dic kvs)) (hy : EX c ty ρ 0 d) (kt : D.ktop d = true) (hv : valV kvs d.key = some v) {dv : D} (hf : ∀ B, DR c B v dv) : EX c (tNGet c td ty) ρ 0 dv := fun G B H σ E Q k => hd.at0 E fun x B1 H1 T1 r1 E1 => hy.at0 E1 fun y B2 H2 T2 r2 E2 => by
  obtain ⟨a, xs, ds, rfl, e1, e2, rfl⟩ := r1.dic_inv
  obtain ⟨b, rfl⟩ := r2.ktop_ref kt
  have x2 : Ex B1 H2 := T2.hB.trans T2.bh
  exact ⟨a, xs, ds, b, d, v, ⟨rfl, x2 _ _ e1, e2.mono x2, rfl, r2.mono T2.bh, kt⟩, hv, k _ H2 (.imm (T1.trans T2) (hf _))⟩
theorem ex_nin (hy : EX c ty ρ 0 d) (hd : EX c td ρ 0 (.dic kvs)) (kt : D.ktop d = true) : EX c (tNIn c ty td) ρ 0 (.bl (valV kvs d.key).isSome) := fun G B H σ E Q k => hy.at0 E fun y B1 H1 T1 r1 E1 => hd.at0 E1 fun x B2 H2 T2 r2 E2 => by
  obtain ⟨a, xs, ds, rfl, e1, e2, rfl⟩ := r2.dic_inv
  obtain ⟨b, rfl⟩ := r1.ktop_ref kt
  exact ⟨a, xs, ds, b, d, ⟨rfl, T2.bh _ _ e1, e2.mono T2.bh, rfl, r1.mono (T2.hB.trans T2.bh), kt⟩, k _ H2 (.imm (T1.trans T2) (.bl _))⟩
theorem ex_nnotin (hy : EX c ty ρ 0 d) (hd : EX c td ρ 0 (.dic kvs)) (kt : D.ktop d = true) : EX c (tNNotIn c ty td) ρ 0 (.bl (!(valV kvs d.key).isSome)) := fun G B H σ E Q k => hy.at0 E fun y B1 H1 T1 r1 E1 => hd.at0 E1 fun x B2 H2 T2 r2 E2 => by
  obtain ⟨a, xs, ds, rfl, e1, e2, rfl⟩ := r2.dic_inv
  obtain ⟨b, rfl⟩ := r1.ktop_ref kt
  exact ⟨a, xs, ds, b, d, ⟨rfl, T2.bh _ _ e1, e2.mono T2.bh, rfl, r1.mono (T2.hB.trans T2.bh), kt⟩, k _ H2 (.imm (T1.trans T2) (.bl _))⟩
theorem ex_nlen (hd : EX c td ρ 0 (.dic kvs)) : EX c (tCB (rLenN c) (tCons td tNil)) ρ 0 (.int (kvs.length : Int)) := fun G B H σ E Q k => hd.at0 E fun x B1 H1 T1 r1 E1 => by
  obtain ⟨a, xs, ds, rfl, e1, e2, rfl⟩ := r1.dic_inv
  refine ⟨a, xs, ds, rfl, T1.bh _ _ e1, e2.mono T1.bh, ?_⟩
  rw [show xs.length = (xs.map fun x => (x.1, x.2.2)).length from (List.length_map _).symm]
  exact k _ H1 (.imm T1 (.int _))
theorem Keyed.put {B : Hp} {xs : List (NestedKey × Addr × V)} {b : Addr} {v : V} (k : Keyed c B xs ds) (r : DR c B (.ref b) d) (kt : D.ktop d = true) : ∃ ds', Keyed c B (storedX xs d.key b v) ds' := by
  obtain ⟨h1, h2, h3⟩ := k
  unfold storedX
  split
  · refine ⟨ds, ?_, ?_, h3⟩
    · rw [List.map_map]
      have e : xs.map ((fun x => V.ref x.2.1) ∘ putX d.key v) = xs.map fun x => V.ref x.2.1 := List.map_congr_left fun x _ => by
        unfold Function.comp putX
        split <;> rfl
      rw [e]
      exact h1
    · rw [List.map_map, ← h2]
      exact List.map_congr_left fun x _ => by
        unfold Function.comp putX
        split <;> rfl
  · refine ⟨ds ++ [d], ?_, ?_, ?_⟩
    · rw [List.map_append]
      exact h1.append (.cons r .nil)
    · rw [List.map_append, List.map_append, h2]
      rfl
    · rw [List.all_append, h3]
      simp [kt]
/-- d[k] = v, a dict of the frame's own -/
theorem run_nput {l : Nat} {v : V} {dv : D} (hl : ρ[l]? = some (some (1, .dic kvs))) (hy : EX c ty ρ 0 d) (kt : D.ktop d = true) (hv : EX c tv ρ 0 dv) (fv : D.flat dv = true) (ev : ∀ B u, DR c B u dv → u = v) (hz : kvs.length < 100000) (k : P.nx (ρ.set l (some (1, .dic (putK kvs d.key v))))) : Run c (sNPut c (tVar l) ty tv) ρ P := fun B0 G B H σ E e b m =>
  hv.at0 e fun u B1 H1 T1 r1 e1 => by
    obtain rfl := ev _ _ r1
    obtain ⟨Ss, _, _, h3⟩ := id e1.own
    obtain ⟨x, hx, a, xs, ds, rfl, hH, hB, q1, q2, q3, q4, q5⟩ := h3 l _ _ hl
    refine ⟨_, hx, hy.at0 e1 fun y B2 H2 T2 r2 e2 => ?_⟩
    obtain ⟨b', rfl⟩ := r2.ktop_ref kt
    have ky : Keyed c B2 xs ds := Keyed.mono T2.hB ⟨q1, q2, q3⟩
    have hH2 : H2 a = some (dnO c.P c.w a xs) := T2.hH _ _ hH
    have hlen : xs.length = kvs.length := by rw [q4, List.length_map]
    refine ⟨a, xs, ds, b', d, ⟨rfl, hH2, ky.mono T2.bh, rfl, r2.mono T2.bh, kt⟩, szl _ (by rw [hlen]; exact hz), ?_⟩
    obtain ⟨ds', kk⟩ := ky.put (v := u) r2 kt
    have hB2 : B2 a = none := T2.off hB ⟨_, hH⟩
    have b2 := (b.step e.gh T1).step e1.gh T2
    refine m.nx B2 _ σ _ k ?_ b2
    obtain ⟨Ts, g1, g2, g3⟩ := e2.own
    obtain ⟨x', hx', a', xs', ds2, e0, hH', hB', p1, p2, p3, p4, p5⟩ := g3 l _ _ hl
    rw [hx] at hx'
    cases hx'
    cases e0
    have ha : Ts l a := (p5 a).mpr rfl
    refine ⟨Ex.mut e2.bh hB2, Ex.mut e2.gh (g2 l a ha), by rw [List.length_set, e2.len], Ts, g1, g2, fun j mm dd q => ?_⟩
    by_cases hj : j = l
    · subst hj
      have hlt : j < ρ.length := (List.getElem?_eq_some_iff.mp hl).1
      rw [List.getElem?_set_self hlt] at q
      cases q
      refine ⟨_, hx, a, storedX xs d.key b' u, ds', rfl, upd_same, hB2, kk.rs, kk.ks, kk.ok, ?_, p5⟩
      rw [storedX_kv, ← q4]
    · rw [List.getElem?_set_ne (Ne.symm hj)] at q
      obtain ⟨w, hw, ho⟩ := g3 j mm dd q
      refine ⟨w, hw, ho.frame (Ex.refl _) (fun z y => (ho.there z y).1) fun z o y t => ?_⟩
      rw [upd_ne (fun e' => hj (g1 j l z y (by rw [e']; exact ha)))]
      exact t
end
end DL

/-! DBase6: typed data, == of data, fields, the making of a Hall. -/
namespace DL
open PySem L2
/-! ### typed data -/
class Dat (α : Type) where
  d : α → D
  df : α
  lv : Nat
  pl : ∀ x, D.pl (d x) = true
  dep : ∀ x, (d x).data.depth ≤ lv
  eqv : ∀ x y, PyData.eqv (d x).data (d y).data = true ↔ x = y
abbrev dat {α : Type} [Dat α] (x : α) : D := Dat.d x
instance : Dat Int where
  d := .int
  df := 0
  lv := 0
  pl := fun _ => by rw [D.pl]
  dep := fun _ => by rw [D.data, PyData.depth]; exact Nat.le_refl 0
  eqv := fun x y => by rw [D.data, D.data, PyData.eqv]; simp
section
variable {α β γ : Type} [Dat α] [Dat β] [Dat γ]
theorem pls_map : ∀ xs : List α, D.pls (xs.map Dat.d) = true
  | [] => by rw [List.map_nil, D.pls]
  | x :: xs => by rw [List.map_cons, D.pls, Dat.pl, pls_map xs]; rfl
theorem dep_map : ∀ xs : List α, PyData.depthAll (D.datas (xs.map Dat.d)) ≤ Dat.lv α
  | [] => by rw [List.map_nil, D.datas, PyData.depthAll]; exact Nat.zero_le _
  | x :: xs => by
    rw [List.map_cons, D.datas, PyData.depthAll]
    have h1 := Dat.dep x
    have h2 := dep_map xs
    exact Nat.max_le.mpr ⟨h1, h2⟩
theorem eqv_map : ∀ xs ys : List α, PyData.eqvAll (D.datas (xs.map Dat.d)) (D.datas (ys.map Dat.d)) = true ↔ xs = ys
  | [], [] => by simp [D.datas, PyData.eqvAll]
  | [], y :: ys => by simp [D.datas, PyData.eqvAll]
  | x :: xs, [] => by simp [D.datas, PyData.eqvAll]
  | x :: xs, y :: ys => by
    rw [List.map_cons, List.map_cons, D.datas, D.datas, PyData.eqvAll, Bool.and_eq_true, Dat.eqv, eqv_map xs ys, List.cons.injEq]
instance : Dat (List α) where
  d := fun xs => .lst (xs.map Dat.d)
  df := []
  lv := Dat.lv α + 1
  pl := fun xs => by rw [D.pl]; exact pls_map xs
  dep := fun xs => by rw [D.data, PyData.depth]; exact Nat.succ_le_succ (dep_map xs)
  eqv := fun xs ys => by rw [D.data, D.data, PyData.eqv]; exact eqv_map xs ys
instance : Dat (α × β) where
  d := fun p => .tup [Dat.d p.1, Dat.d p.2]
  df := (Dat.df, Dat.df)
  lv := max (Dat.lv α) (Dat.lv β) + 1
  pl := fun p => by rw [D.pl, D.pls, D.pls, D.pls, Dat.pl, Dat.pl]; rfl
  dep := fun p => by
    have h1 := Dat.dep p.1
    have h2 := Dat.dep p.2
    rw [D.data, PyData.depth, D.datas, D.datas, D.datas, PyData.depthAll, PyData.depthAll, PyData.depthAll]
    refine Nat.succ_le_succ (Nat.max_le.mpr ⟨Nat.le_trans h1 (Nat.le_max_left _ _), Nat.max_le.mpr ⟨Nat.le_trans h2 (Nat.le_max_right _ _), Nat.zero_le _⟩⟩)
  eqv := fun p q => by
    simp only [D.data, PyData.eqv, D.datas, PyData.eqvAll, Bool.and_true, Bool.and_eq_true, Dat.eqv, Prod.ext_iff]
/-- three in a tuple -/
structure Tri (α β γ : Type) where
  a : α
  b : β
  c : γ
  deriving DecidableEq
instance : Dat (Tri α β γ) where
  d := fun p => .tup [Dat.d p.a, Dat.d p.b, Dat.d p.c]
  df := ⟨Dat.df, Dat.df, Dat.df⟩
  lv := max (Dat.lv α) (max (Dat.lv β) (Dat.lv γ)) + 1
  pl := fun p => by rw [D.pl, D.pls, D.pls, D.pls, D.pls, Dat.pl, Dat.pl, Dat.pl]; rfl
  dep := fun p => by
    have h1 := Dat.dep p.a
    have h2 := Dat.dep p.b
    have h3 := Dat.dep p.c
    rw [D.data, PyData.depth, D.datas, D.datas, D.datas, D.datas, PyData.depthAll, PyData.depthAll, PyData.depthAll, PyData.depthAll]
    omega
  eqv := fun p q => by
    cases p
    cases q
    simp only [D.data, PyData.eqv, D.datas, PyData.eqvAll, Bool.and_true, Bool.and_eq_true, Dat.eqv, Tri.mk.injEq]
/-- a tuple of things of one kind -/
structure Tup (α : Type) where
  l : List α
  deriving DecidableEq
instance : Dat (Tup α) where
  d := fun p => .tup (p.l.map Dat.d)
  df := ⟨[]⟩
  lv := Dat.lv α + 1
  pl := fun xs => by rw [D.pl]; exact pls_map xs.l
  dep := fun xs => by rw [D.data, PyData.depth]; exact Nat.succ_le_succ (dep_map xs.l)
  eqv := fun xs ys => by
    rw [D.data, D.data, PyData.eqv, eqv_map]
    cases xs
    cases ys
    simp
end
mutual
theorem canLay : ∀ d : D, D.pl d = true → d.data.canLay0 = true
  | .non, _ => by rw [D.data]; simp [PyData.canLay0]
  | .bl _, _ => by rw [D.data]; simp [PyData.canLay0]
  | .int _, _ => by rw [D.data]; simp [PyData.canLay0]
  | .lst xs, h => by rw [D.pl] at h; rw [D.data, PyData.canLay0]; exact canLays xs h
  | .tup xs, h => by rw [D.pl] at h; rw [D.data, PyData.canLay0]; exact canLays xs h
  | .obj _, h => by rw [D.pl] at h; cases h
  | .dic _, h => by rw [D.pl] at h; cases h
  | .scr _, h => by rw [D.pl] at h; cases h
  | .fix _, h => by rw [D.pl] at h; cases h
  | .raw _, h => by rw [D.pl] at h; cases h
theorem canLays : ∀ ds : List D, D.pls ds = true → PyData.canLayAll0 (D.datas ds) = true
  | [], _ => by rw [D.datas]; simp [PyData.canLayAll0]
  | d :: ds, h => by
    rw [D.pls, Bool.and_eq_true] at h
    rw [D.datas, PyData.canLayAll0, canLay d h.1, canLays ds h.2]
    rfl
end
/-- data that == can be asked of -/
def D.eqok (d : D) : Prop := D.pl d = true ∧ d.data.depth ≤ 60
theorem eqok_shaped {d : D} (h : D.eqok d) : SeqAt.shaped d.data = true := by
  unfold SeqAt.shaped
  rw [canLay d h.1, Bool.true_and]
  exact decide_eq_true (Nat.le_trans h.2 (by decide))
theorem eqok_dat {α : Type} [Dat α] (x : α) (h : Dat.lv α ≤ 60 := by decide) : D.eqok (Dat.d x) := ⟨Dat.pl x, Nat.le_trans (Dat.dep x) h⟩
section
variable {c : Cfg} {ρ : Rho} {n : Nat} {d d1 d2 : D} {ds : List D} {ta tb te : TE}
theorem ex_eqD (ha : EX c ta ρ 0 d1) (hb : EX c tb ρ 0 d2) (h1 : D.eqok d1) (h2 : D.eqok d2) : EX c (tOp (rEqD c.K) ta tb) ρ 0 (.bl (PyData.eqv d1.data d2.data)) := fun G B H σ E Q k => ha.at0 E fun v B1 H1 T1 r1 E1 => hb.at0 E1 fun u B2 H2 T2 r2 E2 =>
  ⟨d1.data, d2.data, (r1.mono (T2.hB.trans T2.bh)).dp h1.1, (r2.mono T2.bh).dp h2.1, eqok_shaped h1, eqok_shaped h2, k _ H2 (.imm (T1.trans T2) (.bl _))⟩
theorem ex_neD (ha : EX c ta ρ 0 d1) (hb : EX c tb ρ 0 d2) (h1 : D.eqok d1) (h2 : D.eqok d2) : EX c (tOp (rNeD c.K) ta tb) ρ 0 (.bl (!PyData.eqv d1.data d2.data)) := fun G B H σ E Q k => ha.at0 E fun v B1 H1 T1 r1 E1 => hb.at0 E1 fun u B2 H2 T2 r2 E2 =>
  ⟨d1.data, d2.data, (r1.mono (T2.hB.trans T2.bh)).dp h1.1, (r2.mono T2.bh).dp h2.1, eqok_shaped h1, eqok_shaped h2, k _ H2 (.imm (T1.trans T2) (.bl _))⟩
theorem eqv_dec {α : Type} [Dat α] [DecidableEq α] (x y : α) : PyData.eqv (Dat.d x).data (Dat.d y).data = decide (x = y) := by
  rw [Bool.eq_iff_iff, Dat.eqv, decide_eq_true_eq]
/-- x == y, of data -/
def eqT {α : Type} [Dat α] (x y : α) : Bool := PyData.eqv (Dat.d x).data (Dat.d y).data
theorem eqT_iff {α : Type} [Dat α] {x y : α} : eqT x y = true ↔ x = y := Dat.eqv x y
theorem eqT_dec {α : Type} [Dat α] [DecidableEq α] (x y : α) : eqT x y = decide (x = y) := eqv_dec x y
theorem eqT_self {α : Type} [Dat α] (x : α) : eqT x x = true := eqT_iff.mpr rfl
theorem ex_eqT {α : Type} [Dat α] {x y : α} (ha : EX c ta ρ 0 (Dat.d x)) (hb : EX c tb ρ 0 (Dat.d y)) (h : Dat.lv α ≤ 60 := by decide) : EX c (tOp (rEqD c.K) ta tb) ρ 0 (.bl (eqT x y)) := ex_eqD ha hb (eqok_dat x h) (eqok_dat y h)
theorem ex_neT {α : Type} [Dat α] {x y : α} (ha : EX c ta ρ 0 (Dat.d x)) (hb : EX c tb ρ 0 (Dat.d y)) (h : Dat.lv α ≤ 60 := by decide) : EX c (tOp (rNeD c.K) ta tb) ρ 0 (.bl (!eqT x y)) := ex_neD ha hb (eqok_dat x h) (eqok_dat y h)
theorem datas_map {α : Type} [Dat α] : ∀ xs : List α, D.datas (xs.map Dat.d) = xs.map fun x => (Dat.d x).data
  | [] => by rw [List.map_nil, D.datas]; rfl
  | x :: xs => by rw [List.map_cons, D.datas, datas_map xs]; rfl
/-- x in xs, of data -/
def memT {α : Type} [Dat α] (x : α) (xs : List α) : Bool := xs.any fun z => eqT z x
theorem memT_iff {α : Type} [Dat α] {x : α} {xs : List α} : memT x xs = true ↔ x ∈ xs := by
  unfold memT
  rw [List.any_eq_true]
  constructor
  · rintro ⟨y, hy, h⟩
    rw [eqT_iff] at h
    exact h ▸ hy
  · intro h
    exact ⟨x, h, eqT_self x⟩
theorem memT_dec {α : Type} [Dat α] [DecidableEq α] (x : α) (xs : List α) : memT x xs = decide (x ∈ xs) := by
  rw [Bool.eq_iff_iff, memT_iff, decide_eq_true_eq]
theorem datas_any {α : Type} [Dat α] (x : α) (xs : List α) : ((D.datas (xs.map Dat.d)).any fun z => PyData.eqv z (Dat.d x).data) = memT x xs := by
  rw [datas_map, List.any_map]
  rfl
/-- x in xs -/
theorem ex_inT {α : Type} [Dat α] {x : α} {xs : List α} (ha : EX c ta ρ 0 (Dat.d x)) (hb : EX c tb ρ 0 (Dat.d xs)) (h : Dat.lv α ≤ 59 := by decide) : EX c (tOp (rInD c.K) ta tb) ρ 0 (.bl (memT x xs)) := fun G B H σ E Q k => ha.at0 E fun v B1 H1 T1 r1 E1 => hb.at0 E1 fun u B2 H2 T2 r2 E2 => by
  have q := (r2.mono T2.bh).dp (Dat.pl xs)
  refine ⟨(Dat.d x).data, D.datas (xs.map Dat.d), (r1.mono (T2.hB.trans T2.bh)).dp (Dat.pl x), by rw [show (Dat.d xs : D).data = .list (D.datas (xs.map Dat.d)) from D.data.eq_4 _] at q; exact q, eqok_shaped (eqok_dat x (by omega)), ?_, ?_⟩
  · have e := eqok_shaped (eqok_dat xs (by show Dat.lv α + 1 ≤ 60; omega))
    rw [show (Dat.d xs : D).data = .list (D.datas (xs.map Dat.d)) from D.data.eq_4 _] at e
    exact e
  · rw [datas_any]
    exact k _ H2 (.imm (T1.trans T2) (.bl _))
theorem ex_ninT {α : Type} [Dat α] {x : α} {xs : List α} (ha : EX c ta ρ 0 (Dat.d x)) (hb : EX c tb ρ 0 (Dat.d xs)) (h : Dat.lv α ≤ 59 := by decide) : EX c (tOp (rNotInD c.K) ta tb) ρ 0 (.bl (!memT x xs)) := fun G B H σ E Q k => ha.at0 E fun v B1 H1 T1 r1 E1 => hb.at0 E1 fun u B2 H2 T2 r2 E2 => by
  have q := (r2.mono T2.bh).dp (Dat.pl xs)
  refine ⟨(Dat.d x).data, D.datas (xs.map Dat.d), (r1.mono (T2.hB.trans T2.bh)).dp (Dat.pl x), by rw [show (Dat.d xs : D).data = .list (D.datas (xs.map Dat.d)) from D.data.eq_4 _] at q; exact q, eqok_shaped (eqok_dat x (by omega)), ?_, ?_⟩
  · have e := eqok_shaped (eqok_dat xs (by show Dat.lv α + 1 ≤ 60; omega))
    rw [show (Dat.d xs : D).data = .list (D.datas (xs.map Dat.d)) from D.data.eq_4 _] at e
    exact e
  · rw [datas_any]
    exact k _ H2 (.imm (T1.trans T2) (.bl _))

/-! typed items -/
/-- xs[i] where it is there -/
def at' {α : Type} [Dat α] (xs : List α) (i : Int) : α := xs.getD i.toNat Dat.df
theorem at_nat {α : Type} [Dat α] {xs : List α} {i : Nat} {x : α} (h : xs[i]? = some x) : at' xs (i : Int) = x := by
  unfold at'
  rw [Int.toNat_natCast, List.getD_eq_getElem?_getD, h]
  rfl
theorem atI_at {α : Type} [Dat α] {xs : List α} {i : Int} (h0 : 0 ≤ i) (h1 : i < xs.length) : atI xs i = some (at' xs i) := by
  obtain ⟨j, rfl⟩ := Int.eq_ofNat_of_zero_le h0
  have hj : j < xs.length := by omega
  have e : xs[j]? = some xs[j] := List.getElem?_eq_getElem hj
  show atI xs ((j : Nat) : Int) = some (at' xs ((j : Nat) : Int))
  rw [atI_nat e, at_nat e]
theorem at_mem {α : Type} [Dat α] {xs : List α} {i : Int} (h0 : 0 ≤ i) (h1 : i < xs.length) : at' xs i ∈ xs := by
  obtain ⟨j, rfl⟩ := Int.eq_ofNat_of_zero_le h0
  have hj : j < xs.length := by omega
  have e : xs[j]? = some xs[j] := List.getElem?_eq_getElem hj
  show at' xs ((j : Nat) : Int) ∈ xs
  rw [at_nat e]
  exact List.getElem_mem hj
theorem atI_map {α : Type} {xs : List α} {f : α → D} {i : Int} {x : α} (h : atI xs i = some x) : atI (xs.map f) i = some (f x) := by
  obtain ⟨j, h1, h2⟩ := atI_some h
  unfold atI
  rw [List.length_map, h2]
  show (xs.map f)[j]? = _
  rw [List.getElem?_map, h1]
  rfl
theorem ex_ix {α : Type} [Dat α] {xs : List α} {i : Int} (ha : EX c ta ρ 0 (Dat.d xs)) (hb : EX c tb ρ 0 (.int i)) (h0 : 0 ≤ i) (h1 : i < xs.length) : EX c (tOp (rIxL c.K) ta tb) ρ 0 (Dat.d (at' xs i)) := ex_ixL ha hb (atI_map (atI_at h0 h1))
theorem ex_ixTp {α : Type} [Dat α] {xs : Tup α} {i : Int} (ha : EX c ta ρ 0 (Dat.d xs)) (hb : EX c tb ρ 0 (.int i)) (h0 : 0 ≤ i) (h1 : i < xs.l.length) : EX c (tOp (rIxT c.K) ta tb) ρ 0 (Dat.d (at' xs.l i)) := ex_ixT ha hb (atI_map (atI_at h0 h1))
theorem ex_fst {α β : Type} [Dat α] [Dat β] {p : α × β} (ha : EX c ta ρ 0 (Dat.d p)) : EX c (tOp (rIxT c.K) ta (tC (.int 0))) ρ 0 (Dat.d p.1) := ex_ixT ha ex_int rfl
theorem ex_snd {α β : Type} [Dat α] [Dat β] {p : α × β} (ha : EX c ta ρ 0 (Dat.d p)) : EX c (tOp (rIxT c.K) ta (tC (.int 1))) ρ 0 (Dat.d p.2) := ex_ixT ha ex_int rfl
theorem ex_lenD {α : Type} [Dat α] {xs : List α} (ha : EX c ta ρ 0 (Dat.d xs)) : EX c (tCB (lLen c.K) (tCons ta tNil)) ρ 0 (.int (xs.length : Int)) := by
  have h := ex_len (ds := xs.map Dat.d) ha
  rw [List.length_map] at h
  exact h
end
/-! ### fields -/
structure HallTxt (c : Cfg) : Prop where
  cl : Cls c.K c.C
  ne : NoAttr c.K c.C "ends"
  nr : NoAttr c.K c.C "rests"
  nt : NoAttr c.K c.C "table"
section
variable {c : Cfg} {ρ : Rho} {d1 d2 d3 : D} {ta : TE}
theorem ex_ends (T : HallTxt c) (h : EX c ta ρ 0 (.obj [d1, d2, d3])) : EX c (tFld c.K ta "ends") ρ 0 d1 := fun G B H σ E Q k => h.at0 E fun v B1 H1 T1 r E1 => by
  cases r with
  | obj e l1 l2 l3 r1 r2 r3 => exact ⟨_, _, _, _, _, rfl, T1.bh _ _ e, T.cl, T.ne, l1, k _ H1 (.imm T1 r1)⟩
theorem ex_rests (T : HallTxt c) (h : EX c ta ρ 0 (.obj [d1, d2, d3])) : EX c (tFld c.K ta "rests") ρ 0 d2 := fun G B H σ E Q k => h.at0 E fun v B1 H1 T1 r E1 => by
  cases r with
  | obj e l1 l2 l3 r1 r2 r3 => exact ⟨_, _, _, _, _, rfl, T1.bh _ _ e, T.cl, T.nr, l2, k _ H1 (.imm T1 r2)⟩
theorem ex_table (T : HallTxt c) (h : EX c ta ρ 0 (.obj [d1, d2, d3])) : EX c (tFld c.K ta "table") ρ 0 d3 := fun G B H σ E Q k => h.at0 E fun v B1 H1 T1 r E1 => by
  cases r with
  | obj e l1 l2 l3 r1 r2 r3 => exact ⟨_, _, _, _, _, rfl, T1.bh _ _ e, T.cl, T.nt, l3, k _ H1 (.imm T1 r3)⟩
end
/-! ### the making of a Hall -/
/-- __init__'s promise: where pre holds of what is handed in, the three fields -/
def spMk (c : Cfg) {ι : Type} (a1 a2 a3 : ι → D) (pre : ι → Prop) : Sp := fun vs H Q _ => ∃ (z : ι) (x dx : Addr) (v1 v2 v3 : V) (B : Hp), pre z ∧ vs = [.ref x, v1, v2, v3] ∧ H x = some (.ins c.C dx []) ∧ Ex B H ∧ B x = none ∧ DR c B v1 (a1 z) ∧ DR c B v2 (a2 z) ∧ DR c B v3 (a3 z) ∧
  ∀ B' H' fs u1 u2 u3, Ex B B' → Ex B' H' → (∀ a o, B' a = some o → B a = some o ∨ H a = none) → (∀ a o, a ≠ x → H a = some o → H' a = some o) → B' x = none → H' x = some (.ins c.C dx fs) →
    fs.lookup ("ends" : Str) = some u1 → fs.lookup ("rests" : Str) = some u2 → fs.lookup ("table" : Str) = some u3 → DR c B' u1 (a1 z) → DR c B' u2 (a2 z) → DR c B' u3 (a3 z) → Q .non H'
structure Maker (c : Cfg) (mg : Str → Option Value) (base : Heap) (k : Nat) (sp : Sp) : Prop where
  ex : ∃ f fd, FnOk c.P c.w c.K mg base CX0 k f fd ["self", "ends", "rests", "table"] sp ∧ mg "Hall" = some (.ref c.C) ∧ Mk c.K c.C f ∧ Binds c.K fd ["self", "ends", "rests", "table"] []
theorem pe_makeH {c : Cfg} {X : Cx} {k : Nat} {sp : Sp} {e : Expr} {es : List Expr} {t : TA} {p pos : Pos} (h : Maker c X.mg X.base k sp) (eP : X.prog = c.P) (ew : X.w = c.w) (eK : X.K = c.K) (hr : Room (k + 1) X.A) (hg : Gl X "Hall") (ha : PA X (e :: es) t)
    (ob : OneByOne X e es pos := by exact ⟨rfl, rfl⟩) :
    PE X (.Call (.Name "Hall" p) (e :: es) [] pos) (tMake c.C sp [] E0 t) := by
  obtain ⟨f, fd, F, g, M, b⟩ := h.ex
  rw [← eP, ← ew, ← eK] at F
  rw [← eK] at M b
  exact pe_make M F hr hg g b .nil pass0 ha (by decide) ob.each ob.bare
theorem ex_make {c : Cfg} {ρ : Rho} {ι : Type} {a1 a2 a3 : ι → D} {pre : ι → Prop} {ta : TA} {E : XK} (z : ι) (ha : EA c ta ρ 0 [a1 z, a2 z, a3 z]) (hp : pre z) : EX c (tMake c.C (spMk c a1 a2 a3 pre) [] E ta) ρ 0 (.obj [a1 z, a2 z, a3 z]) := fun G B H σ e Q k => ha.at0 e fun vs B1 H1 T1 r e1 => by
  cases r with
  | cons r1 r =>
    cases r with
    | cons r2 r =>
      cases r with
      | cons r3 r =>
        cases r
        intro x dx nx ndx nex
        have x1 : Ex H1 (upd (upd H1 dx (.own x)) x (.ins c.C dx [])) := fun a o q => by
          rw [upd_ne (ne_of_none q nx), upd_ne (ne_of_none q ndx)]
          exact q
        refine ⟨z, x, dx, _, _, _, B1, hp, rfl, upd_same, T1.bh.trans x1, Ex.back T1.bh nx, r1, r2, r3, fun B' H' fs u1 u2 u3 h1 h2 h3 h4 h5 h6 l1 l2 l3 d1 d2 d3 => ⟨rfl, ?_⟩⟩
        have hB : Ex B' (upd B' x (.ins c.C dx fs)) := Ex.new h5
        have hH1 : Ex H1 H' := fun a o q => h4 a o (ne_of_none q nx) (x1 a o q)
        refine k _ _ (.imm (B' := upd B' x (.ins c.C dx fs)) (T1.trans ⟨hH1, h1.trans hB, fun a o q => ?_, fun a o q => ?_⟩) (.obj upd_same l1 l2 l3 (d1.mono hB) (d2.mono hB) (d3.mono hB)))
        · by_cases q' : a = x
          · subst q'
            rw [upd_same] at q
            rw [h6]
            exact q
          · rw [upd_ne q'] at q
            exact h2 a o q
        · by_cases q' : a = x
          · exact .inr (by rw [q']; exact nx)
          · rw [upd_ne q'] at q
            rcases h3 a o q with t | t
            · exact .inl t
            · refine .inr ?_
              cases w : H1 a with
              | none => rfl
              | some o' => rw [x1 a o' w] at t; cases t
theorem maker_of {c : Cfg} {mg : Str → Option Value} {base : Heap} {st : Stmt} {N : List Str} {k : Nat} {sp : Sp} {t : TS} (D : ∃ f fd, Fun c.K "__init__" "Hall.__init__" st f fd ∧ Mk c.K c.C f) (g : mg "Hall" = some (.ref c.C)) (S : FnScope N ["self", "ends", "rests", "table"] (defScope st)) (len : ∀ vs H Q E, sp vs H Q E → vs.length = 4)
    (hb : ∀ (kV doc pm : Value) (an : Option Addr) (cdv ct : Value) (us : List Value), us.length = 4 → bindArgs (PySem.W.fnOf "__init__" "Hall.__init__" (defArgs st) (defBody st) (defScope st) .none kV doc pm an cdv ct) ⟨us, []⟩ = pure ((["self", "ends", "rests", "table"] : List Str).zip us))
    (body : ∀ f cdv A outer s H E, Room k (A.deeper (PyProof.Rows.envOfC "Hall.__init__" (defScope st) s.heap.objs.size f cdv)) → PSs (bodyCx c mg base N "Hall.__init__" st f cdv A outer s H E) (defBody st) t)
    (pure : ∀ vs H Q E, sp vs H Q E → t { nx := fun _ H' => Q .non H', rt := Q } (L2.start N vs) H) : Maker c mg base (k + 1) sp := by
  obtain ⟨f, fd, F, M⟩ := D
  exact ⟨f, fd, F.ok S len fun cdv A outer s H vs Q E hr h => ⟨t, body f cdv A outer s H E hr, pure vs H Q E h⟩, g, M, F.binds hb⟩
/-- an object that is not told of is changed -/
theorem Env.poke {c : Cfg} {G B H : Hp} {σ : St} {ρ : Rho} {x : Addr} {o : HO} (E : Env c G B H σ ρ) (hi : ∀ (i n : Nat) (d : D), ρ[i]? = some (some (n, d)) → n = 0) (hb : B x = none) (hg : G x = none) : Env c G B (upd H x o) σ ρ := by
  obtain ⟨Ss, h1, h2, h3⟩ := E.own
  refine ⟨Ex.mut E.bh hb, Ex.mut E.gh hg, E.len, fun _ _ => False, fun _ _ _ z => z.elim, fun _ _ z => z.elim, fun i n d q => ?_⟩
  obtain ⟨v, hv, ho⟩ := h3 i n d q
  have e := hi i n d q
  subst e
  exact ⟨v, hv, fun _ z => z, ho.2⟩
theorem sfld_step {c : Cfg} {G B H : Hp} {σ : St} {ρ : Rho} {x dx : Addr} {fs : List (Str × V)} {f : Str} {te : TE} {d : D} {Dn : Ends} (E : Env c G B H σ ρ) (hi : ∀ (i n : Nat) (d : D), ρ[i]? = some (some (n, d)) → n = 0) (hσ : σ[0]? = some (some (.ref x)))
    (hx : H x = some (.ins c.C dx fs)) (hg : G x = none) (hb : B x = none) (cl : Cls c.K c.C) (na : NoAttr c.K c.C f) (hl : fs.length < 1000) (h : EX c te ρ 0 d)
    (k : ∀ y B' H', Ex B B' → (∀ a o, B' a = some o → B a = some o ∨ H a = none) → (∀ a o, a ≠ x → H a = some o → H' a = some o) → Env c G B' H' σ ρ → H' x = some (.ins c.C dx (putF f y fs)) → B' x = none → DR c B' y d → Dn.nx σ H') :
    sFld c.K (tVar 0) te f Dn σ H := h.at0 E fun y B1 H1 T1 r E1 => by
  have hb1 : B1 x = none := T1.off hb ⟨_, hx⟩
  refine ⟨_, hσ, x, c.C, dx, fs, rfl, T1.hH _ _ hx, cl, na, hl, ?_⟩
  refine k y B1 _ T1.hB T1.new (fun a o ha q => ?_) (E1.poke hi hb1 hg) upd_same hb1 r
  rw [upd_ne ha]
  exact T1.hH _ _ q
end DL

/-! DBase7: isinstance; short forms for loops and lists. -/
namespace DL
open PySem L2
theorem _root_.L2.Room.units1 {k : Nat} {A : Around} (r : Room k A) : A.units + 65 < cLine := by have := r.un; omega
section
variable {c : Cfg} {ρ : Rho} {n : Nat} {d d1 d2 d3 : D} {ds : List D} {ta tb te : TE}
/-- the class of a thing, by its name -/
def D.tyn : D → String
  | .non => "NoneType"
  | .bl _ => "bool"
  | .int _ => "int"
  | .lst _ => "list"
  | .tup _ => "tuple"
  | .obj _ => ""
  | .dic _ => ""
  | .scr _ => ""
  | .fix _ => ""
  | .raw _ => ""
theorem ex_isTy {nm : String} {b : Bool} (h : EX c ta ρ 0 d) (hn : D.tyn d ≠ "") (hb : kitB (D.tyn d) nm = some b) : EX c (tCB (rIsi c.K) (tCons ta (tCons (tC (.ty nm)) tNil))) ρ 0 (.bl b) := fun G B H σ E Q k => h.at0 E fun v B1 H1 T1 r E1 => by
  have e : TyX c.K H1 v (.type (D.tyn d)) := by
    cases r with
    | non => exact .base .non
    | bl b => exact .base (.bl b)
    | int i => exact .base (.int i)
    | lst e _ => exact .base (.lst (T1.bh _ _ e))
    | tup e _ => exact .base (.tup (T1.bh _ _ e))
    | obj => exact absurd rfl hn
    | dic => exact absurd rfl hn
    | scr => exact absurd rfl hn
    | fix => exact absurd rfl hn
    | raw => exact absurd rfl hn
  exact ⟨v, .ty nm, _, .type nm, b, rfl, .ty nm, e, kit_ty hb, k _ H1 (.imm T1 (.bl b))⟩
/-- what isinstance asks of the class Hall -/
structure IsaTxt (c : Cfg) : Prop where
  cl : Cls c.K c.C
  ha : PySem.W.findIn c.K (.ref c.C) "__class__" = some (some (.builtin "object.__class__"))
  hn : PySem.W.specialIn c.K (.builtin "object.__class__") "__get__" = some (some (.builtin "getset_descriptor.__get__"))
  ht : PySem.W.takesIn c.K (.builtin "object.__class__") = some true
  hm : PySem.W.mroIn c.K c.C (.type "object") = some true
  hk : PySem.W.kitOne c.K (.ref c.C) (.ref c.C) = some true
theorem ex_isH (T : IsaTxt c) (h : EX c ta ρ 0 (.obj [d1, d2, d3])) : EX c (tCB (rIsi c.K) (tCons ta (tCons (tC (.ref c.C)) tNil))) ρ 0 (.bl true) := fun G B H σ E Q k => h.at0 E fun v B1 H1 T1 r E1 => by
  cases r with
  | obj e l1 l2 l3 r1 r2 r3 => exact ⟨_, .ref c.C, _, .ref c.C, true, rfl, .own _, .base (.ins (T1.bh _ _ e) T.cl T.ha T.hn T.ht T.hm), T.hk, k _ H1 (.imm T1 (.bl true))⟩
end
end DL

/-! DBase8: what expressions give, typed. -/
namespace DL
open PySem L2
/-- the expression gives x -/
def TX {α : Type} [Dat α] (c : Cfg) (te : TE) (ρ : Rho) (x : α) : Prop := EX c te ρ 0 (Dat.d x)
/-- .. made anew, to depth n the frame's own -/
def NX {α : Type} [Dat α] (c : Cfg) (te : TE) (ρ : Rho) (n : Nat) (x : α) : Prop := EX c te ρ n (Dat.d x)
/-- a truth value -/
def BX (c : Cfg) (te : TE) (ρ : Rho) (b : Bool) : Prop := EX c te ρ 0 (.bl b)
section
variable {α β γ : Type} {iα : Dat α} {iβ : Dat β} {iγ : Dat γ} {c : Cfg} {ρ : Rho} {n : Nat} {ta tb te tc tl : TE} {tt : TT} {i j : Int} {x y : α} {a : β}
theorem TX.ex (h : TX c te ρ x) : EX c te ρ 0 (Dat.d x) := h
theorem TX.is (h : TX c te ρ x) (e : x = y) : TX c te ρ y := e ▸ h
theorem NX.tx (h : NX c te ρ n x) : TX c te ρ x := EX.give h
theorem NX.is (h : NX c te ρ n x) (e : x = y) : NX c te ρ n y := e ▸ h
theorem BX.is {b b' : Bool} (h : BX c te ρ b) (e : b = b') : BX c te ρ b' := e ▸ h
theorem TX.int (h : TX c te ρ i) : EX c te ρ 0 (.int i) := h
theorem tx_var {k : Nat} (h : ρ[k]? = some (some (0, Dat.d x))) : TX c (tVar k) ρ x := ex_var h
theorem tx_int : TX c (tC (.int i)) ρ i := ex_int
theorem tx_add (ha : TX c ta ρ i) (hb : TX c tb ρ j) : TX c (tOp zAdd ta tb) ρ (i + j) := ex_add ha hb
theorem tx_sub (ha : TX c ta ρ i) (hb : TX c tb ρ j) : TX c (tOp zSub ta tb) ρ (i - j) := ex_sub ha hb
theorem tx_mul (ha : TX c ta ρ i) (hb : TX c tb ρ j) (h : CMul i j) : TX c (tOp zMul ta tb) ρ (i * j) := ex_mul ha hb h
theorem tx_div (ha : TX c ta ρ i) (hb : TX c tb ρ j) (h : CDiv i j) : TX c (tOp zDiv ta tb) ρ (i / j) := ex_div ha hb h
theorem tx_mod (ha : TX c ta ρ i) (hb : TX c tb ρ j) (h : 0 < j) : TX c (tOp zMod ta tb) ρ (i % j) := ex_mod ha hb h
theorem tx_pow (ha : TX c ta ρ i) (hb : TX c tb ρ j) (h : CPow i j) : TX c (tOp zPow ta tb) ρ (i ^ j.toNat) := ex_pow ha hb h
theorem tx_neg (ha : TX c ta ρ i) : TX c (tUn zNeg ta) ρ (-i) := ex_neg ha
theorem tx_max2 (ha : TX c ta ρ i) (hb : TX c tb ρ j) : TX c (tCB lMax2 (tCons ta (tCons tb tNil))) ρ (if j > i then j else i) := ex_max2 ha hb
theorem tx_int1B {b : Bool} (ha : BX c ta ρ b) : TX c (tCB lInt1 (tCons ta tNil)) ρ (if b then (1 : Int) else 0) := ex_int1B ha
theorem tx_len {xs : List α} (ha : TX c ta ρ xs) : TX c (tCB (lLen c.K) (tCons ta tNil)) ρ (xs.length : Int) := ex_lenD ha
theorem tx_fst {p : α × β} (ha : TX c ta ρ p) : TX c (tOp (rIxT c.K) ta (tC (.int 0))) ρ p.1 := ex_fst ha
theorem tx_snd {p : α × β} (ha : TX c ta ρ p) : TX c (tOp (rIxT c.K) ta (tC (.int 1))) ρ p.2 := ex_snd ha
theorem tx_tri0 {p : Tri α β γ} (ha : TX c ta ρ p) : TX c (tOp (rIxT c.K) ta (tC (.int 0))) ρ p.a := ex_ixT (ds := [Dat.d p.a, Dat.d p.b, Dat.d p.c]) ha ex_int rfl
theorem tx_tri1 {p : Tri α β γ} (ha : TX c ta ρ p) : TX c (tOp (rIxT c.K) ta (tC (.int 1))) ρ p.b := ex_ixT (ds := [Dat.d p.a, Dat.d p.b, Dat.d p.c]) ha ex_int rfl
theorem tx_tri2 {p : Tri α β γ} (ha : TX c ta ρ p) : TX c (tOp (rIxT c.K) ta (tC (.int 2))) ρ p.c := ex_ixT (ds := [Dat.d p.a, Dat.d p.b, Dat.d p.c]) ha ex_int rfl
theorem tx_ix {xs : List α} (ha : TX c ta ρ xs) (hb : TX c tb ρ i) (h0 : 0 ≤ i) (h1 : i < xs.length) : TX c (tOp (rIxL c.K) ta tb) ρ (at' xs i) := ex_ix ha hb h0 h1
theorem tx_ixT {xs : Tup α} (ha : TX c ta ρ xs) (hb : TX c tb ρ i) (h0 : 0 ≤ i) (h1 : i < xs.l.length) : TX c (tOp (rIxT c.K) ta tb) ρ (at' xs.l i) := ex_ixTp ha hb h0 h1
/-- an item of a list of the frame's own -/
theorem tx_ixO {xs : List α} {k : Nat} (hk : ρ[k]? = some (some (1, Dat.d xs))) (hb : TX c tb ρ i) (h0 : 0 ≤ i) (h1 : i < xs.length) : TX c (tOp (rIxL c.K) (tVar k) tb) ρ (at' xs i) := ex_ixO hk hb (atI_map (atI_at h0 h1))
theorem tx_ixS {ns : List Int} (ha : EX c ta ρ 0 (.scr ns)) (hb : TX c tb ρ i) (h0 : 0 ≤ i) (h1 : i < ns.length) : TX c (tOp (rIxL c.K) ta tb) ρ (at' ns i) := ex_ixS ha hb (atI_at h0 h1)
theorem nx_tup2 (ha : TX c ta ρ x) (hb : TX c tb ρ a) : NX c (tTup (tCons ta (tCons tb tNil))) ρ 1 (x, a) := ex_tup (ea_cons ha (ea_cons hb ea_nil)) (by exact Nat.le_of_ble_eq_true rfl)
theorem nx_tup3 {z : γ} (ha : TX c ta ρ x) (hb : TX c tb ρ a) (hc : TX c tc ρ z) : NX c (tTup (tCons ta (tCons tb (tCons tc tNil)))) ρ 1 (Tri.mk x a z) := ex_tup (ea_cons ha (ea_cons hb (ea_cons hc ea_nil))) (by exact Nat.le_of_ble_eq_true rfl)
theorem nx_list {xs : List α} (ha : TX c ta ρ xs) : NX c (tCB (lList c.K) (tCons ta tNil)) ρ 1 xs := ex_list ha
theorem nx_listO {xs : List α} {k : Nat} (hk : ρ[k]? = some (some (1, Dat.d xs))) : NX c (tCB (lList c.K) (tCons (tVar k) tNil)) ρ 1 xs := ex_listO hk
theorem nx_tupOf {xs : List α} (ha : TX c ta ρ xs) : NX c (tThen ta (kTup c.K)) ρ 1 (Tup.mk xs) := ex_tupOf ha
theorem nx_tupO {xs : List α} {k : Nat} (hk : ρ[k]? = some (some (1, Dat.d xs))) : NX c (tThen (tVar k) (kTup c.K)) ρ 1 (Tup.mk xs) := ex_tupO hk
def rangeI (m : Nat) : List Int := (List.range m).map fun (i : Nat) => (i : Int)
theorem rangeI_d (m : Nat) : (rangeI m).map Dat.d = (List.range m).map fun (i : Nat) => D.int (i : Int) := by
  unfold rangeI
  rw [List.map_map]
  rfl
theorem rangeI_length (m : Nat) : (rangeI m).length = m := by unfold rangeI; rw [List.length_map, List.length_range]
theorem nx_tupRg {m : Nat} (ha : TX c ta ρ i) (e : i = (m : Int)) (hm : m ≤ 100000) : NX c (tTupRg (tRg1 ta)) ρ 1 (Tup.mk (rangeI m)) := by
  subst e
  have h := ex_tupRg ha hm
  rw [← rangeI_d] at h
  exact h
theorem nx_lstRg {m : Nat} (ha : TX c ta ρ i) (e : i = (m : Int)) (hm : m ≤ 100000) : NX c (tLstRg (tRg1 ta)) ρ 1 (rangeI m) := by
  subst e
  have h := ex_lstRg ha hm
  rw [← rangeI_d] at h
  exact h
theorem nx_cat {xs ys : List α} (ha : TX c ta ρ xs) (hb : TX c tb ρ ys) (hl : xs.length + ys.length ≤ 100000) : NX c (tOp rCat ta tb) ρ 1 (xs ++ ys) := by
  have h := ex_cat (ds := xs.map Dat.d) (es := ys.map Dat.d) ha hb (by rw [List.length_map, List.length_map]; exact hl)
  rw [← List.map_append] at h
  exact h
theorem nx_nil : NX c (tLst tNil) ρ 1 ([] : List α) := ex_lst ea_nil (by exact Nat.le_of_ble_eq_true rfl)
theorem nx_one (ha : TX c ta ρ x) : NX c (tLst (tCons ta tNil)) ρ 1 [x] := ex_lst (ea_cons ha ea_nil) (by exact Nat.le_of_ble_eq_true rfl)
theorem nx_two (ha : TX c ta ρ x) (hb : TX c tb ρ y) : NX c (tLst (tCons ta (tCons tb tNil))) ρ 1 [x, y] := ex_lst (ea_cons ha (ea_cons hb ea_nil)) (by exact Nat.le_of_ble_eq_true rfl)
theorem tea_nil : EA c tNil ρ 0 [] := ea_nil
theorem tea_cons {tr : TA} {ds : List D} (h : TX c te ρ x) (hr : EA c tr ρ 0 ds) : EA c (tCons te tr) ρ 0 (Dat.d x :: ds) := ea_cons h hr
/-! truth values -/
theorem bx_lt (ha : TX c ta ρ i) (hb : TX c tb ρ j) : BX c (tOp zLt ta tb) ρ (decide (i < j)) := ex_lt ha hb
theorem bx_le (ha : TX c ta ρ i) (hb : TX c tb ρ j) : BX c (tOp zLe ta tb) ρ (decide (i ≤ j)) := ex_le ha hb
theorem bx_gt (ha : TX c ta ρ i) (hb : TX c tb ρ j) : BX c (tOp zGt ta tb) ρ (decide (j < i)) := ex_gt ha hb
theorem bx_ge (ha : TX c ta ρ i) (hb : TX c tb ρ j) : BX c (tOp zGe ta tb) ρ (decide (j ≤ i)) := ex_ge ha hb
theorem bx_eq (ha : TX c ta ρ i) (hb : TX c tb ρ j) : BX c (tOp rEq ta tb) ρ (decide (i = j)) := ex_eq ha hb
theorem bx_ne (ha : TX c ta ρ i) (hb : TX c tb ρ j) : BX c (tOp rNe ta tb) ρ (!decide (i = j)) := ex_ne ha hb
theorem bx_eqB {a b : Bool} (ha : BX c ta ρ a) (hb : BX c tb ρ b) : BX c (tOp rEq ta tb) ρ (decide (a = b)) := ex_eqB ha hb
theorem bx_eqT (ha : TX c ta ρ x) (hb : TX c tb ρ y) (h : Dat.lv α ≤ 60) : BX c (tOp (rEqD c.K) ta tb) ρ (eqT x y) := ex_eqT ha hb h
theorem bx_neT (ha : TX c ta ρ x) (hb : TX c tb ρ y) (h : Dat.lv α ≤ 60) : BX c (tOp (rNeD c.K) ta tb) ρ (!eqT x y) := ex_neT ha hb h
theorem bx_inT {xs : List α} (ha : TX c ta ρ x) (hb : TX c tb ρ xs) (h : Dat.lv α ≤ 59) : BX c (tOp (rInD c.K) ta tb) ρ (memT x xs) := ex_inT ha hb h
theorem bx_ninT {xs : List α} (ha : TX c ta ρ x) (hb : TX c tb ρ xs) (h : Dat.lv α ≤ 59) : BX c (tOp (rNotInD c.K) ta tb) ρ (!memT x xs) := ex_ninT ha hb h
theorem bx_bl {b : Bool} : BX c (tC (.bl b)) ρ b := ex_bl
theorem bx_and {a b : Bool} (h1 : BX c ta ρ a) (h2 : a = true → BX c tb ρ b) : BX c (tAndV ta tb) ρ (a && b) := ex_and h1 h2
theorem bx_or {a b : Bool} (h1 : BX c ta ρ a) (h2 : a = false → BX c tb ρ b) : BX c (tOrV ta tb) ρ (a || b) := ex_or h1 h2
theorem bx_not {a : Bool} (h1 : BX c ta ρ a) : BX c (tNotV ta) ρ (!a) := ex_not h1
theorem bx_leLt {l : Int} (h1 : TX c ta ρ i) (h2 : TX c tb ρ j) (h3 : TX c tc ρ l) : BX c (tChain zLe zLt ta tb tc) ρ (decide (i ≤ j) && decide (j < l)) := ex_leLt h1 h2 fun _ => h3
theorem bx_leLe {l : Int} (h1 : TX c ta ρ i) (h2 : TX c tb ρ j) (h3 : TX c tc ρ l) : BX c (tChain zLe zLe ta tb tc) ρ (decide (i ≤ j) && decide (j ≤ l)) := ex_leLe h1 h2 fun _ => h3
theorem bx_var {k : Nat} {b : Bool} (h : ρ[k]? = some (some (0, .bl b))) : BX c (tVar k) ρ b := ex_var h
/-! tests -/
theorem ett {b : Bool} (h : BX c te ρ b) : ET c (tTest te) ρ b := et_test h
theorem etB {b : Bool} (h : BX c te ρ b) : ET c (tB te) ρ b := et_B h
/-! calls -/
theorem tx_call {ι : Type} {args : ι → List D} {pre : ι → Prop} {res : ι → α} {E : XK} {t : TA} (z : ι) (ha : EA c t ρ 0 (args z)) (hp : pre z) : TX c (tCall (spF c args pre 0 fun z => Dat.d (res z)) [] E t) ρ (res z) := ex_call z ha hp
theorem nx_call {ι : Type} {args : ι → List D} {pre : ι → Prop} {res : ι → α} {E : XK} {t : TA} (z : ι) (ha : EA c t ρ 0 (args z)) (hp : pre z) : NX c (tCall (spF c args pre n fun z => Dat.d (res z)) [] E t) ρ n (res z) := ex_call z ha hp
theorem bx_call {ι : Type} {args : ι → List D} {pre : ι → Prop} {res : ι → Bool} {E : XK} {t : TA} (z : ι) (ha : EA c t ρ 0 (args z)) (hp : pre z) : BX c (tCall (spF c args pre 0 fun z => .bl (res z)) [] E t) ρ (res z) := ex_call z ha hp
/-! comprehensions -/
theorem nx_lcL {g : TG} {vs ws : List Nat} {up : α → Rho → Rho} (xs : List α) (p : α → Bool) (f : α → β) (hl : TX c tl ρ xs) (hg : ∀ x : α, GT c g (Dat.d x) (up x) ws) (ht : ∀ x ∈ xs, ET c tt (up x (wipeR ρ vs)) (p x))
    (he : ∀ x ∈ xs, p x = true → NX c te (up x (wipeR ρ vs)) n (f x)) (hz : xs.length < 100000) (hw : ∀ w ∈ ws, w ∈ vs) : NX c (tLc (iList c.K tl) g tt te vs) ρ (n + 1) ((xs.filter p).map f) := by
  have h := ex_lcL (n := n) xs Dat.d p (fun x => Dat.d (f x)) hl hg ht he hz hw
  rw [← Function.comp_def, ← List.map_map] at h
  exact h
theorem nx_lcLm {g : TG} {vs ws : List Nat} {up : α → Rho → Rho} (xs : List α) (f : α → β) (hl : TX c tl ρ xs) (hg : ∀ x : α, GT c g (Dat.d x) (up x) ws)
    (he : ∀ x ∈ xs, NX c te (up x (wipeR ρ vs)) n (f x)) (hz : xs.length < 100000) (hw : ∀ w ∈ ws, w ∈ vs) : NX c (tLc (iList c.K tl) g tYes te vs) ρ (n + 1) (xs.map f) := by
  have h := ex_lcLm (n := n) xs Dat.d (fun x => Dat.d (f x)) hl hg he hz hw
  rw [← Function.comp_def, ← List.map_map] at h
  exact h
theorem nx_lcTm {g : TG} {vs ws : List Nat} {up : α → Rho → Rho} (xs : Tup α) (f : α → β) (hl : TX c tl ρ xs) (hg : ∀ x : α, GT c g (Dat.d x) (up x) ws)
    (he : ∀ x ∈ xs.l, NX c te (up x (wipeR ρ vs)) n (f x)) (hz : xs.l.length < 100000) (hw : ∀ w ∈ ws, w ∈ vs) : NX c (tLc (iTup c.K tl) g tYes te vs) ρ (n + 1) (xs.l.map f) := by
  have h := ex_lcT (n := n) xs.l Dat.d (fun _ => true) (fun x => Dat.d (f x)) hl hg (fun _ _ => et_yes) (fun x hx _ => he x hx) hz hw
  rw [show xs.l.filter (fun _ => true) = xs.l from List.filter_eq_self.mpr fun _ _ => rfl, ← Function.comp_def, ← List.map_map] at h
  exact h
theorem nx_lcR {g : TG} {vs ws : List Nat} {up : Nat → Rho → Rho} {m : Nat} (p : Nat → Bool) (f : Nat → β) (hl : TX c ta ρ i) (hi : i = (m : Int)) (hg : ∀ x : Nat, GT c g (.int (x : Int)) (up x) ws) (ht : ∀ x, x < m → ET c tt (up x (wipeR ρ vs)) (p x))
    (he : ∀ x, x < m → p x = true → NX c te (up x (wipeR ρ vs)) n (f x)) (hz : m < 100000) (hw : ∀ w ∈ ws, w ∈ vs) : NX c (tLc (iRng1 (tCons ta tNil)) g tt te vs) ρ (n + 1) (((List.range m).filter p).map f) := by
  subst hi
  have h := ex_lcR (n := n) p (fun x => Dat.d (f x)) (ea_cons hl ea_nil) hg ht he hz hw
  rw [← Function.comp_def, ← List.map_map] at h
  exact h
theorem nx_lcRm {g : TG} {vs ws : List Nat} {up : Nat → Rho → Rho} {m : Nat} (f : Nat → β) (hl : TX c ta ρ i) (hi : i = (m : Int)) (hg : ∀ x : Nat, GT c g (.int (x : Int)) (up x) ws)
    (he : ∀ x, x < m → NX c te (up x (wipeR ρ vs)) n (f x)) (hz : m < 100000) (hw : ∀ w ∈ ws, w ∈ vs) : NX c (tLc (iRng1 (tCons ta tNil)) g tYes te vs) ρ (n + 1) ((List.range m).map f) := by
  subst hi
  have h := ex_lcRm (n := n) (fun x => Dat.d (f x)) (ea_cons hl ea_nil) hg he hz hw
  rw [← Function.comp_def, ← List.map_map] at h
  exact h
/-- an int or a tuple as a comprehension's element -/
theorem TX.nx (h : TX c te ρ x) : NX c te ρ 0 x := h
/-! targets -/
theorem gt_nm {k : Nat} : GT c (gName k) (Dat.d x) (fun ρ => ρ.set k (some (0, Dat.d x))) [k] := gt_name
theorem gt_ni {k m : Nat} : GT c (gName k) (.int (m : Int)) (fun ρ => ρ.set k (some (0, Dat.d (m : Int)))) [k] := gt_name
theorem gt_pair {k l : Nat} {p : α × β} : GT c (gTup c.K 2 (gCons (gName k) (gCons (gName l) gNil))) (Dat.d p) (fun ρ => (ρ.set k (some (0, Dat.d p.1))).set l (some (0, Dat.d p.2))) [k, l] := gt_two
theorem gt_tri {k l m : Nat} {p : Tri α β γ} : GT c (gTup c.K 3 (gCons (gName k) (gCons (gName l) (gCons (gName m) gNil)))) (Dat.d p) (fun ρ => ((ρ.set k (some (0, Dat.d p.a))).set l (some (0, Dat.d p.b))).set m (some (0, Dat.d p.c))) [k, l, m] := gt_three
/-! statements -/
theorem run_setT {P : Posts} {k : Nat} (h : TX c te ρ x) (q : P.nx (ρ.set k (some (0, Dat.d x)))) : Run c (tAsg te (gName k)) ρ P := run_set h q
theorem run_setI {P : Posts} {k : Nat} (h : TX c te (cur ρ) i) (q : P.nx (ρ.set k (some (0, Dat.d i)))) : Run c (tAsg te (gName k)) ρ P := run_set (EX.ofCur h) q
theorem run_setN {P : Posts} {k : Nat} (h : NX c te ρ n x) (q : P.nx (ρ.set k (some (n, Dat.d x)))) : Run c (tAsg te (gName k)) ρ P := run_set h q
theorem run_retB {P : Posts} {b : Bool} (h : BX c te (cur ρ) b) (q : P.rt 0 (.bl b)) : Run c (tRet te) ρ P := run_ret (EX.ofCur h) q
theorem run_retI {P : Posts} (h : TX c te (cur ρ) i) (q : P.rt 0 (Dat.d i)) : Run c (tRet te) ρ P := run_ret (EX.ofCur h) q
theorem run_retT {P : Posts} (h : TX c te ρ x) (q : P.rt 0 (Dat.d x)) : Run c (tRet te) ρ P := run_ret h q
theorem run_retX {P : Posts} (h : NX c te ρ n x) (q : P.rt n (Dat.d x)) : Run c (tRet te) ρ P := run_ret h q
theorem run_appT {P : Posts} {l : Nat} {xs : List α} (hl : ρ[l]? = some (some (n + 1, Dat.d xs))) (h : NX c te ρ n x) (hz : xs.length < 100000) (k : P.nx (ρ.set l (some (n + 1, Dat.d (xs ++ [x]))))) : Run c (tDrop (tBM c.K "list" rAppend (tVar l) (tCons te tNil))) ρ P := by
  refine run_app (ds := xs.map Dat.d) hl h (by rw [List.length_map]; exact hz) ?_
  have e : (Dat.d (xs ++ [x]) : D) = .lst (xs.map Dat.d ++ [Dat.d x]) := by
    show D.lst ((xs ++ [x]).map Dat.d) = _
    rw [List.map_append]
    rfl
  rw [← e]
  exact k
theorem run_insT {P : Posts} {l : Nat} {xs : List α} (hl : ρ[l]? = some (some (n + 1, Dat.d xs))) (hi : TX c ta ρ i) (h : NX c te ρ n x) (h0 : 0 ≤ i) (h1 : i ≤ 100000) (hz : xs.length < 100000) (k : P.nx (ρ.set l (some (n + 1, Dat.d (xs.take i.toNat ++ [x] ++ xs.drop i.toNat))))) :
    Run c (tDrop (tBM c.K "list" zIns (tVar l) (tCons ta (tCons te tNil)))) ρ P := by
  refine run_ins (ds := xs.map Dat.d) hl hi h h0 h1 (by rw [List.length_map]; exact hz) ?_
  have e : (Dat.d (xs.take i.toNat ++ [x] ++ xs.drop i.toNat) : D) = .lst ((xs.map Dat.d).take i.toNat ++ [Dat.d x] ++ (xs.map Dat.d).drop i.toNat) := by
    show D.lst ((xs.take i.toNat ++ [x] ++ xs.drop i.toNat).map Dat.d) = _
    rw [List.map_append, List.map_append, List.map_take, List.map_drop]
    rfl
  rw [← e]
  exact k
theorem run_forLT {g : TG} {ws : List Nat} {up : α → Rho → Rho} {tb : TS} {P : Posts} (xs : List α) (I : Nat → Rho → Prop) (hl : TX c tl ρ xs) (hg : ∀ x : α, GT c g (Dat.d x) (up x) ws) (h0 : I 0 ρ)
    (hs : ∀ (i : Nat) (x : α) ρ', xs[i]? = some x → I i ρ' → Run c tb (up x ρ') { nx := I (i + 1), rt := P.rt, bk := P.nx, ct := I (i + 1) }) (hd : ∀ ρ', I xs.length ρ' → P.nx ρ') : Run c (tFor (iList c.K tl) g tb) ρ P := run_forL xs Dat.d I hl hg h0 hs hd
theorem run_forRT {m : Nat} {j : Nat} {tb : TS} {P : Posts} (I : Nat → Rho → Prop) (hl : TX c ta (cur ρ) i) (hi : i = (m : Int)) (hm : m ≤ 100000) (h0 : I 0 ρ)
    (hs : ∀ (i : Nat) ρ', i < m → I i ρ' → Run c tb (ρ'.set j (some (0, Dat.d (i : Int)))) { nx := I (i + 1), rt := P.rt, bk := P.nx, ct := I (i + 1) }) (hd : ∀ ρ', I m ρ' → P.nx ρ') : Run c (tFor (iRng1 (tCons ta tNil)) (gName j) tb) ρ P := by
  subst hi
  exact run_forR (mi := (m : Int)) I (ea_cons hl ea_nil) (by omega) (by omega) h0 (fun i ρ' h => hs i ρ' (by omega)) (by rw [Int.toNat_natCast]; exact hd)
/-- a loop that stores nothing for a later turn, and may hand back early: bad tells at which items, with v -/
theorem run_allL {g : TG} {ws : List Nat} {up : α → Rho → Rho} {tb : TS} {P : Posts} (xs : List α) (bad : α → Bool) (Fr : Rho → Prop) (hl : TX c tl ρ xs) (hg : ∀ x : α, GT c g (Dat.d x) (up x) ws) (h0 : Fr ρ)
    (hs : ∀ x ρ', x ∈ xs → Fr ρ' → Run c tb (up x ρ') { nx := fun ρ2 => bad x = false ∧ Fr ρ2, rt := fun m d => bad x = true ∧ (xs.all (fun x => !bad x) = false → P.rt m d), bk := fun _ => False, ct := fun ρ2 => bad x = false ∧ Fr ρ2 })
    (hd : ∀ ρ', xs.all (fun x => !bad x) = true → Fr ρ' → P.nx ρ') : Run c (tFor (iList c.K tl) g tb) ρ P := by
  refine run_forLT xs (fun i ρ' => (∀ j x, j < i → xs[j]? = some x → bad x = false) ∧ Fr ρ') hl hg ⟨fun _ _ z => absurd z (Nat.not_lt_zero _), h0⟩ (fun i x ρ' hx ⟨h1, h2⟩ => ?_) fun ρ' ⟨h1, h2⟩ => ?_
  · have ext : ∀ b, b = bad x → bad x = false → ∀ j y, j < i + 1 → xs[j]? = some y → bad y = false := fun b _ q j y hj hy => by
      by_cases e : j = i
      · rw [e, hx] at hy
        cases hy
        exact q
      · exact h1 j y (by omega) hy
    refine run_mono (hs x ρ' (List.mem_of_getElem? hx) h2) (fun ρ2 ⟨q1, q2⟩ => ⟨ext _ rfl q1, q2⟩) (fun m d ⟨q1, q2⟩ => q2 ?_) (fun _ z => z.elim) (fun ρ2 ⟨q1, q2⟩ => ⟨ext _ rfl q1, q2⟩)
    rw [List.all_eq_false]
    exact ⟨x, List.mem_of_getElem? hx, by rw [q1]; decide⟩
  · refine hd ρ' ?_ h2
    rw [List.all_eq_true]
    intro x hx
    obtain ⟨j, hj, e⟩ := List.getElem_of_mem hx
    have q := h1 j x hj (by rw [List.getElem?_eq_getElem hj, e])
    rw [q]
    rfl
theorem run_allR {m : Nat} {j : Nat} {tb : TS} {P : Posts} (bad : Nat → Bool) (Fr : Rho → Prop) (hl : TX c ta (cur ρ) i) (hi : i = (m : Int)) (hm : m ≤ 100000) (h0 : Fr ρ)
    (hs : ∀ (i : Nat) ρ', i < m → Fr ρ' → Run c tb (ρ'.set j (some (0, Dat.d (i : Int)))) { nx := fun ρ2 => bad i = false ∧ Fr ρ2, rt := fun k d => bad i = true ∧ ((List.range m).all (fun i => !bad i) = false → P.rt k d), bk := fun _ => False, ct := fun ρ2 => bad i = false ∧ Fr ρ2 })
    (hd : ∀ ρ', (List.range m).all (fun i => !bad i) = true → Fr ρ' → P.nx ρ') : Run c (tFor (iRng1 (tCons ta tNil)) (gName j) tb) ρ P := by
  refine run_forRT (fun i ρ' => (∀ k, k < i → bad k = false) ∧ Fr ρ') hl hi hm ⟨fun _ z => absurd z (Nat.not_lt_zero _), h0⟩ (fun i ρ' hx ⟨h1, h2⟩ => ?_) fun ρ' ⟨h1, h2⟩ => ?_
  · have ext : bad i = false → ∀ k, k < i + 1 → bad k = false := fun q k hk => by
      by_cases e : k = i
      · rw [e]; exact q
      · exact h1 k (by omega)
    refine run_mono (hs i ρ' hx h2) (fun ρ2 ⟨q1, q2⟩ => ⟨ext q1, q2⟩) (fun m' d ⟨q1, q2⟩ => q2 ?_) (fun _ z => z.elim) (fun ρ2 ⟨q1, q2⟩ => ⟨ext q1, q2⟩)
    rw [List.all_eq_false]
    exact ⟨i, List.mem_range.mpr hx, by rw [q1]; decide⟩
  · refine hd ρ' ?_ h2
    rw [List.all_eq_true]
    intro x hx
    rw [h1 x (List.mem_range.mp hx)]
    rfl
end
end DL

/-! DBase9: promises by a relation; a list that is handed over to be changed. -/
namespace DL
open PySem L2
/-- as spF, what is handed back told by a relation -/
def spG {ι : Type} (c : Cfg) (args : ι → List D) (pre : ι → Prop) (n : Nat) (rel : ι → D → Prop) : Sp := fun vs H Q _ => ∃ (x : ι) (B : Hp), pre x ∧ Ex B H ∧ DRs c B vs (args x) ∧ ∀ v H' d, rel x d → Res c B H H' n v d → Q v H'
section
variable {c : Cfg} {ι : Type} {args : ι → List D} {pre : ι → Prop} {n : Nat} {rel : ι → D → Prop} {ρ : Rho} {ta : TA} {E : XK} {t : TS} {P : Posts}
theorem run_setR {k : Nat} (x : ι) (ha : EA c ta ρ 0 (args x)) (hp : pre x) (q : ∀ d, rel x d → P.nx (ρ.set k (some (n, d)))) : Run c (tAsg (tCall (spG c args pre n rel) [] E ta) (gName k)) ρ P := fun B0 G B H σ Z e b m =>
  ha.at0 e fun vs B1 H1 T1 r e1 => ⟨x, B1, hp, e1.bh, by rw [List.append_nil]; exact r, fun v H' d hd R => by
    obtain ⟨B', e', T⟩ := e.bind k (R.trans T1)
    exact m.nx B' H' _ _ (q d hd) e' (b.step e.gh T)⟩
theorem run_retR (x : ι) (ha : EA c ta ρ 0 (args x)) (hp : pre x) (q : ∀ d, rel x d → P.rt n d) : Run c (tRet (tCall (spG c args pre n rel) [] E ta)) ρ P := fun B0 G B H σ Z e b m =>
  ha.at0 e fun vs B1 H1 T1 r e1 => ⟨x, B1, hp, e1.bh, by rw [List.append_nil]; exact r, fun v H' d hd R => m.rt v H' n d (q d hd) (b.res e.gh (R.trans T1))⟩
theorem fn_runR {N : List Str} {ρ0 : ι → Rho} (hρ : ∀ x, ρ0 x = (args x).map (fun d => some (0, d)) ++ List.replicate (N.length - (args x).length) none) (hl : ∀ x, (args x).length ≤ N.length)
    (h : ∀ x, pre x → Run c t (ρ0 x) { nx := fun _ => n = 0 ∧ rel x .non, rt := fun m d => m = n ∧ rel x d }) (vs : List V) (H : Hp) (Q : VK) (E : XK) (hs : spG c args pre n rel vs H Q E) : t { nx := fun _ H' => Q .non H', rt := Q } (L2.start N vs) H := by
  obtain ⟨x, B, hp, e, r, k⟩ := hs
  refine h x hp B H B H _ _ (by rw [hρ x]; exact start_env e r (hl x)) .refl ⟨fun B' H' σ ρ z e' b => ?_, fun v H' m d z R => ?_, fun _ _ _ _ z => z.elim, fun _ _ _ _ z => z.elim⟩
  · obtain ⟨z1, z2⟩ := z
    refine k _ _ _ z2 ?_
    rw [z1]
    exact b.res e'.gh (.imm (.refl e'.bh) .non)
  · obtain ⟨z1, z2⟩ := z
    rw [z1] at R
    exact k _ _ _ z2 R
theorem spG_len {m : Nat} (hl : ∀ x, (args x).length = m) (vs : List V) (H : Hp) (Q : VK) (E : XK) (h : spG c args pre n rel vs H Q E) : vs.length = m := by
  obtain ⟨x, B, _, _, r, _⟩ := h
  rw [r.length, hl]
end
/-- H without a -/
def minus (H : Hp) (a : Addr) : Hp := fun b => if b = a then none else H b
theorem minus_at {H : Hp} {a : Addr} : minus H a a = none := by unfold minus; rw [if_pos rfl]
theorem minus_ne {H : Hp} {a b : Addr} (h : b ≠ a) : minus H a b = H b := by unfold minus; rw [if_neg h]
theorem minus_ex {H : Hp} {a : Addr} : Ex (minus H a) H := fun b o q => by
  by_cases w : b = a
  · rw [w, minus_at] at q; cases q
  · rw [minus_ne w] at q; exact q
theorem ex_minus {B H : Hp} {a : Addr} (e : Ex B H) (h : B a = none) : Ex B (minus H a) := fun b o q => by
  have w : b ≠ a := fun w => by rw [w, h] at q; cases q
  rw [minus_ne w]
  exact e b o q
/-- a list of the caller's own is handed over, changed and handed back -/
def spMv {α ι : Type} [Dat α] (c : Cfg) (arg : ι → List α) (pre : ι → Prop) (rel : ι → List α → Prop) : Sp := fun vs H Q _ => ∃ (a : Addr) (us : List V) (z : ι) (B : Hp), pre z ∧ vs = [.ref a] ∧ H a = some (.lst us) ∧ B a = none ∧ Ex B H ∧ DRs c B us ((arg z).map Dat.d) ∧
  ∀ v H' ys, rel z ys → Res c B (minus H a) H' 1 v (Dat.d ys) → Q v H'
section
variable {α ι : Type} [Dat α] {c : Cfg} {arg : ι → List α} {pre : ι → Prop} {rel : ι → List α → Prop} {ρ : Rho} {E : XK} {t : TS} {P : Posts}
theorem Env.lend {G B H : Hp} {σ : St} {i : Nat} {d : D} {a : Addr} {us : List V} (E : Env c G B H σ ρ) (hi : ρ[i]? = some (some (1, d))) (hv : σ[i]? = some (some (.ref a))) (hd : ∃ ds, d = .lst ds) : Env c G B (minus H a) σ (ρ.set i none) := by
  obtain ⟨ds, rfl⟩ := hd
  obtain ⟨Ss, h1, h2, h3⟩ := E.own
  obtain ⟨v, hv', a', vs, S1, e0, hH, hB, hO, hn, hS⟩ := h3 i 1 _ hi
  rw [hv] at hv'
  cases hv'
  cases e0
  have ha : Ss i a := (hS a).mpr (.inl rfl)
  refine ⟨ex_minus E.bh hB, ex_minus E.gh (h2 i a ha), by rw [List.length_set, E.len], Ss, h1, h2, fun j n d q => ?_⟩
  by_cases hj : j = i
  · subst hj
    rw [List.getElem?_set_self (List.getElem?_eq_some_iff.mp hi).1] at q
    cases q
  · rw [List.getElem?_set_ne (Ne.symm hj)] at q
    obtain ⟨u, hu, ho⟩ := h3 j n d q
    refine ⟨u, hu, ho.frame (Ex.refl _) (fun b z => (ho.there b z).1) fun b o z w => ?_⟩
    rw [minus_ne (fun e => hj (h1 j i b z (by rw [e]; exact ha)))]
    exact w
theorem run_setMv {i : Nat} (z : ι) (hi : ρ[i]? = some (some (1, Dat.d (arg z)))) (hp : pre z) (q : ∀ ys : List α, rel z ys → P.nx (ρ.set i (some (1, Dat.d ys)))) : Run c (tAsg (tCall (spMv c arg pre rel) [] E (tCons (tVar i) tNil)) (gName i)) ρ P := fun B0 G B H σ Z e b m => by
  obtain ⟨Ss, h1, h2, h3⟩ := id e.own
  obtain ⟨v, hv, a, us, S1, rfl, hH, hB, hO, hn, hS⟩ := h3 i 1 _ hi
  refine ⟨_, hv, a, us, z, B, hp, rfl, hH, hB, e.bh, OwnL.drs (fun _ _ _ _ z => z.2) hO, fun v H' ys hr R => ?_⟩
  have el := e.lend (us := us) hi hv ⟨_, rfl⟩
  obtain ⟨B', e', T⟩ := el.bind i R
  rw [List.set_set] at e'
  exact m.nx B' H' _ _ (q ys hr) e' (b.step (ex_minus e.gh (h2 i a ((hS a).mpr (.inl rfl)))) T)
theorem fn_runMv {N : List Str} {ρ0 : ι → Rho} (hN : 1 ≤ N.length) (hρ : ∀ x, ρ0 x = some (1, Dat.d (arg x)) :: List.replicate (N.length - 1) none)
    (h : ∀ x, pre x → Run c t (ρ0 x) { nx := fun _ => False, rt := fun m d => m = 1 ∧ ∃ ys : List α, d = Dat.d ys ∧ rel x ys }) (vs : List V) (H : Hp) (Q : VK) (E : XK) (hs : spMv c arg pre rel vs H Q E) : t { nx := fun _ H' => Q .non H', rt := Q } (L2.start N vs) H := by
  obtain ⟨a, us, xs, B, hp, rfl, hH, hB, e, r, k⟩ := hs
  have en : Env c (minus H a) B H (L2.start N [.ref a]) (ρ0 xs) := by
    refine ⟨e, minus_ex, ?_, fun j b => j = 0 ∧ b = a, fun i j b z y => z.1.trans y.1.symm, fun i b z => by rw [z.2]; exact minus_at, fun i n d q => ?_⟩
    · rw [hρ]
      unfold L2.start
      simp
    · rw [hρ] at q
      match i, q with
      | 0, q =>
        cases q
        refine ⟨.ref a, rfl, a, us, fun _ => False, rfl, hH, hB, OwnL.of_drs r, fun z => z, fun b => ⟨fun z => .inl z.2, fun z => z.elim (fun y => ⟨rfl, y⟩) fun y => y.elim⟩⟩
      | j + 1, q =>
        rw [List.getElem?_cons_succ, List.getElem?_replicate] at q
        split at q <;> cases q
  refine h xs hp B (minus H a) B H _ _ en .refl ⟨fun _ _ _ _ z => z.elim, fun v H' m d z R => ?_, fun _ _ _ _ z => z.elim, fun _ _ _ _ z => z.elim⟩
  obtain ⟨rfl, ys, rfl, hr⟩ := z
  exact k v H' ys hr R
theorem spMv_len (vs : List V) (H : Hp) (Q : VK) (E : XK) (h : spMv c arg pre rel vs H Q E) : vs.length = 1 := by
  obtain ⟨a, us, xs, B, _, rfl, _⟩ := h
  rfl
end
/-! ### dicts, typed; written lists -/
/-- the key that x is -/
def keyT {α : Type} [Dat α] (x : α) : NestedKey := (Dat.d x).key
section
variable {α β : Type} {iα : Dat α} {iβ : Dat β} {c : Cfg} {ρ : Rho} {n : Nat} {ta te td ty tv : TE} {P : Posts} {x : α} {kvs : List (NestedKey × V)}
theorem run_nputB {l : Nat} {b : Bool} (hl : ρ[l]? = some (some (1, .dic kvs))) (hy : TX c ty ρ x) (kt : D.ktop (Dat.d x) = true) (hv : BX c tv ρ b) (hz : kvs.length < 100000) (k : P.nx (ρ.set l (some (1, .dic (putK kvs (keyT x) (.bl b)))))) : Run c (sNPut c (tVar l) ty tv) ρ P :=
  run_nput hl hy kt hv rfl (fun _ _ r => r.bl_inv) hz k
theorem run_nputI {l : Nat} {i : Int} (hl : ρ[l]? = some (some (1, .dic kvs))) (hy : TX c ty ρ x) (kt : D.ktop (Dat.d x) = true) (hv : TX c tv ρ i) (hz : kvs.length < 100000) (k : P.nx (ρ.set l (some (1, .dic (putK kvs (keyT x) (.int i)))))) : Run c (sNPut c (tVar l) ty tv) ρ P :=
  run_nput hl hy kt hv rfl (fun _ _ r => r.int_inv) hz k
theorem bx_nnotin {l : Nat} (hy : TX c ty ρ x) (hl : ρ[l]? = some (some (0, .dic kvs))) (kt : D.ktop (Dat.d x) = true) : BX c (tNNotIn c ty (tVar l)) ρ (!(valV kvs (keyT x)).isSome) := ex_nnotin hy (ex_var hl) kt
theorem tx_nget {l : Nat} {i : Int} (hl : ρ[l]? = some (some (0, .dic kvs))) (hy : TX c ty ρ x) (kt : D.ktop (Dat.d x) = true) (hv : valV kvs (keyT x) = some (.int i)) : TX c (tNGet c (tVar l) ty) ρ i := ex_nget (ex_var hl) hy kt hv fun _ => .int i
theorem TX.ofCur {i : Int} (h : TX c te (cur ρ) i) : TX c te ρ i := EX.ofCur h
theorem BX.ofCur {b : Bool} (h : BX c te (cur ρ) b) : BX c te ρ b := EX.ofCur h
theorem tx_lenS {ns : List Int} (ha : EX c ta ρ 0 (.scr ns)) : TX c (tCB (lLen c.K) (tCons ta tNil)) ρ (ns.length : Int) := ex_lenS ha
/-- the items of a written list -/
def LA {α : Type} [Dat α] (c : Cfg) (ta : TA) (ρ : Rho) (n : Nat) (xs : List α) : Prop := EA c ta ρ n (xs.map Dat.d)
theorem la_nil : LA c tNil ρ n ([] : List α) := ea_nil
theorem la_cons {tr : TA} {xs : List α} (h : NX c te ρ n x) (hr : LA c tr ρ n xs) : LA c (tCons te tr) ρ n (x :: xs) := ea_cons h hr
theorem nx_lst {tr : TA} {xs : List α} (h : LA c tr ρ n xs) (hl : xs.length ≤ 100000) : NX c (tLst tr) ρ (n + 1) xs := ex_lst h (by rw [List.length_map]; exact hl)
theorem la_tx {tr : TA} {xs : List α} (h : TX c te ρ x) (hr : LA c tr ρ 0 xs) : LA c (tCons te tr) ρ 0 (x :: xs) := ea_cons h hr
end
section
variable {c : Cfg} {ρ : Rho} {n : Nat} {te : TE} {P : Posts}
/-- the value written out -/
theorem run_setA {α : Type} [Dat α] (x : α) {k : Nat} (h : TX c te ρ x) (q : P.nx (ρ.set k (some (0, Dat.d x)))) : Run c (tAsg te (gName k)) ρ P := run_set h q
theorem run_retA {α : Type} [Dat α] (x : α) (h : TX c te ρ x) (q : P.rt 0 (Dat.d x)) : Run c (tRet te) ρ P := run_ret h q
theorem run_setO {α : Type} [Dat α] (n : Nat) (x : α) {k : Nat} (h : NX c te ρ n x) (q : P.nx (ρ.set k (some (n, Dat.d x)))) : Run c (tAsg te (gName k)) ρ P := run_set h q
theorem run_retO {α : Type} [Dat α] (n : Nat) (x : α) (h : NX c te ρ n x) (q : P.rt n (Dat.d x)) : Run c (tRet te) ρ P := run_ret h q
theorem NX.give {α : Type} [Dat α] (n : Nat) {x : α} (h : NX c te ρ n x) : TX c te ρ x := EX.give h
end
end DL

/-! DBaseA: five in a tuple; halls. -/
namespace DL
open PySem L2
/-- five in a tuple -/
structure Five (α β γ δ ε : Type) where
  a : α
  b : β
  c : γ
  d : δ
  e : ε
section
variable {α β γ δ ε : Type}
instance [Dat α] [Dat β] [Dat γ] [Dat δ] [Dat ε] : Dat (Five α β γ δ ε) where
  d := fun p => .tup [Dat.d p.a, Dat.d p.b, Dat.d p.c, Dat.d p.d, Dat.d p.e]
  df := ⟨Dat.df, Dat.df, Dat.df, Dat.df, Dat.df⟩
  lv := max (Dat.lv α) (max (Dat.lv β) (max (Dat.lv γ) (max (Dat.lv δ) (Dat.lv ε)))) + 1
  pl := fun p => by rw [D.pl, D.pls, D.pls, D.pls, D.pls, D.pls, D.pls, Dat.pl, Dat.pl, Dat.pl, Dat.pl, Dat.pl]; rfl
  dep := fun p => by
    have h1 := Dat.dep p.a
    have h2 := Dat.dep p.b
    have h3 := Dat.dep p.c
    have h4 := Dat.dep p.d
    have h5 := Dat.dep p.e
    rw [D.data, PyData.depth, D.datas, D.datas, D.datas, D.datas, D.datas, D.datas, PyData.depthAll, PyData.depthAll, PyData.depthAll, PyData.depthAll, PyData.depthAll, PyData.depthAll]
    omega
  eqv := fun p q => by
    cases p
    cases q
    simp only [D.data, PyData.eqv, D.datas, PyData.eqvAll, Bool.and_true, Bool.and_eq_true, Dat.eqv, Five.mk.injEq]
variable {iα : Dat α} {iβ : Dat β} {iγ : Dat γ} {iδ : Dat δ} {iε : Dat ε} {c : Cfg} {ρ : Rho} {n : Nat} {ta tb te tc td : TE} {x : α} {y : β} {z : γ} {u : δ} {w : ε}
theorem tx_p0 {p : Five α β γ δ ε} (ha : TX c ta ρ p) : TX c (tOp (rIxT c.K) ta (tC (.int 0))) ρ p.a := ex_ixT (ds := [Dat.d p.a, Dat.d p.b, Dat.d p.c, Dat.d p.d, Dat.d p.e]) ha ex_int rfl
theorem tx_p1 {p : Five α β γ δ ε} (ha : TX c ta ρ p) : TX c (tOp (rIxT c.K) ta (tC (.int 1))) ρ p.b := ex_ixT (ds := [Dat.d p.a, Dat.d p.b, Dat.d p.c, Dat.d p.d, Dat.d p.e]) ha ex_int rfl
theorem tx_p2 {p : Five α β γ δ ε} (ha : TX c ta ρ p) : TX c (tOp (rIxT c.K) ta (tC (.int 2))) ρ p.c := ex_ixT (ds := [Dat.d p.a, Dat.d p.b, Dat.d p.c, Dat.d p.d, Dat.d p.e]) ha ex_int rfl
theorem tx_p3 {p : Five α β γ δ ε} (ha : TX c ta ρ p) : TX c (tOp (rIxT c.K) ta (tC (.int 3))) ρ p.d := ex_ixT (ds := [Dat.d p.a, Dat.d p.b, Dat.d p.c, Dat.d p.d, Dat.d p.e]) ha ex_int rfl
theorem tx_p4 {p : Five α β γ δ ε} (ha : TX c ta ρ p) : TX c (tOp (rIxT c.K) ta (tC (.int 4))) ρ p.e := ex_ixT (ds := [Dat.d p.a, Dat.d p.b, Dat.d p.c, Dat.d p.d, Dat.d p.e]) ha ex_int rfl
theorem nx_tup5 (ha : TX c ta ρ x) (hb : TX c tb ρ y) (hc : TX c tc ρ z) (hd : TX c td ρ u) (he : TX c te ρ w) : NX c (tTup (tCons ta (tCons tb (tCons tc (tCons td (tCons te tNil)))))) ρ 1 (Five.mk x y z u w) := ex_tup (ea_cons ha (ea_cons hb (ea_cons hc (ea_cons hd (ea_cons he ea_nil))))) (by exact Nat.le_of_ble_eq_true rfl)
end
/-! ### halls -/
structure HallT where
  e : List (Int × Int)
  r : List Int
  t : List (List Int)
def hd (h : HallT) : D := .obj [Dat.d h.e, Dat.d h.r, Dat.d h.t]
/-- the expression gives the hall -/
def HX (c : Cfg) (te : TE) (ρ : Rho) (h : HallT) : Prop := EX c te ρ 0 (hd h)
section
variable {c : Cfg} {ρ : Rho} {te ta tb tc : TE} {h : HallT} {P : Posts}
theorem hx_var {k : Nat} (h' : ρ[k]? = some (some (0, hd h))) : HX c (tVar k) ρ h := ex_var h'
theorem tx_ends (T : HallTxt c) (h' : HX c te ρ h) : TX c (tFld c.K te "ends") ρ h.e := ex_ends T h'
theorem tx_rests (T : HallTxt c) (h' : HX c te ρ h) : TX c (tFld c.K te "rests") ρ h.r := ex_rests T h'
theorem tx_table (T : HallTxt c) (h' : HX c te ρ h) : TX c (tFld c.K te "table") ρ h.t := ex_table T h'
theorem bx_isH (T : IsaTxt c) (h' : HX c te ρ h) : BX c (tCB (rIsi c.K) (tCons te (tCons (tC (.ref c.C)) tNil))) ρ true := ex_isH T h'
theorem run_setH {k : Nat} (h' : HX c te ρ h) (q : P.nx (ρ.set k (some (0, hd h)))) : Run c (tAsg te (gName k)) ρ P := run_set h' q
theorem run_retH (h' : HX c te ρ h) (q : P.rt 0 (hd h)) : Run c (tRet te) ρ P := run_ret h' q
theorem hx_call {ι : Type} {args : ι → List D} {pre : ι → Prop} {res : ι → HallT} {E : XK} {t : TA} (z : ι) (ha : EA c t ρ 0 (args z)) (hp : pre z) : HX c (tCall (spF c args pre 0 fun z => hd (res z)) [] E t) ρ (res z) := ex_call z ha hp
end
end DL

/-! DBaseB: parts, zip, isinstance of the built-in classes, a list within a list. -/
namespace DL
open PySem L2
/-! ### what is told of a hall, in a tuple with more behind -/
def pd (h : HallT) (r : List D) : D := .tup (Dat.d h.e :: Dat.d h.r :: Dat.d h.t :: r)
def PX (c : Cfg) (te : TE) (ρ : Rho) (h : HallT) (r : List D) : Prop := EX c te ρ 0 (pd h r)
section
variable {c : Cfg} {ρ : Rho} {te ta tb tc : TE} {h : HallT} {r : List D} {P : Posts} {n : Nat}
theorem px_var {k : Nat} (h' : ρ[k]? = some (some (0, pd h r))) : PX c (tVar k) ρ h r := ex_var h'
theorem atI_lt {ds : List D} {i : Nat} {d : D} (h : ds[i]? = some d) : atI ds (i : Int) = some d := atI_nat h
theorem tx_q0 (ha : PX c ta ρ h r) : TX c (tOp (rIxT c.K) ta (tC (.int 0))) ρ h.e := ex_ixT ha ex_int (atI_lt (i := 0) rfl)
theorem tx_q1 (ha : PX c ta ρ h r) : TX c (tOp (rIxT c.K) ta (tC (.int 1))) ρ h.r := ex_ixT ha ex_int (atI_lt (i := 1) rfl)
theorem tx_q2 (ha : PX c ta ρ h r) : TX c (tOp (rIxT c.K) ta (tC (.int 2))) ρ h.t := ex_ixT ha ex_int (atI_lt (i := 2) rfl)
theorem tx_q3 {α : Type} [Dat α] {x : α} (ha : PX c ta ρ h (Dat.d x :: r)) : TX c (tOp (rIxT c.K) ta (tC (.int 3))) ρ x := ex_ixT ha ex_int (atI_lt (i := 3) rfl)
theorem tx_q4 {α : Type} [Dat α] {y : D} {x : α} (ha : PX c ta ρ h (y :: Dat.d x :: r)) : TX c (tOp (rIxT c.K) ta (tC (.int 4))) ρ x := ex_ixT ha ex_int (atI_lt (i := 4) rfl)
theorem run_setP {k : Nat} (h' : PX c te ρ h r) (q : P.nx (ρ.set k (some (0, pd h r)))) : Run c (tAsg te (gName k)) ρ P := run_set h' q
theorem px_tup3 (ha : TX c ta ρ h.e) (hb : TX c tb ρ h.r) (hc : TX c tc ρ h.t) : PX c (tTup (tCons ta (tCons tb (tCons tc tNil)))) ρ h [] := EX.give (n := 1) (ex_tup (ea_cons ha (ea_cons hb (ea_cons hc ea_nil))) (by exact Nat.le_of_ble_eq_true rfl))
theorem run_setD {k : Nat} (d : D) (h' : EX c te ρ 0 d) (q : P.nx (ρ.set k (some (0, d)))) : Run c (tAsg te (gName k)) ρ P := run_set h' q
end
/-! ### two of unlike kinds in a list -/
structure LPair (α β : Type) where
  a : α
  b : β
section
variable {α β : Type}
instance [Dat α] [Dat β] : Dat (LPair α β) where
  d := fun p => .lst [Dat.d p.a, Dat.d p.b]
  df := ⟨Dat.df, Dat.df⟩
  lv := max (Dat.lv α) (Dat.lv β) + 1
  pl := fun p => by rw [D.pl, D.pls, D.pls, D.pls, Dat.pl, Dat.pl]; rfl
  dep := fun p => by
    have h1 := Dat.dep p.a
    have h2 := Dat.dep p.b
    rw [D.data, PyData.depth, D.datas, D.datas, D.datas, PyData.depthAll, PyData.depthAll, PyData.depthAll]
    refine Nat.succ_le_succ (Nat.max_le.mpr ⟨Nat.le_trans h1 (Nat.le_max_left _ _), Nat.max_le.mpr ⟨Nat.le_trans h2 (Nat.le_max_right _ _), Nat.zero_le _⟩⟩)
  eqv := fun p q => by
    cases p
    cases q
    simp only [D.data, PyData.eqv, D.datas, PyData.eqvAll, Bool.and_true, Bool.and_eq_true, Dat.eqv, LPair.mk.injEq]
variable {iα : Dat α} {iβ : Dat β} {c : Cfg} {ρ : Rho} {n : Nat} {ta tb : TE} {x : α} {y : β} {p : LPair α β}
theorem tx_l0 (ha : TX c ta ρ p) : TX c (tOp (rIxL c.K) ta (tC (.int 0))) ρ p.a := ex_ixL (ds := [Dat.d p.a, Dat.d p.b]) ha ex_int rfl
theorem tx_l1 (ha : TX c ta ρ p) : TX c (tOp (rIxL c.K) ta (tC (.int 1))) ρ p.b := ex_ixL (ds := [Dat.d p.a, Dat.d p.b]) ha ex_int rfl
theorem nx_lpair (ha : NX c ta ρ n x) (hb : NX c tb ρ n y) : NX c (tLst (tCons ta (tCons tb tNil))) ρ (n + 1) (LPair.mk x y) := ex_lst (ea_cons ha (ea_cons hb ea_nil)) (by exact Nat.le_of_ble_eq_true rfl)
end
/-! ### isinstance -/
section
variable {α : Type} {iα : Dat α} {c : Cfg} {ρ : Rho} {ta : TE} {xs : List α} {i : Int} {b : Bool}
theorem bx_lstL (ha : TX c ta ρ xs) : BX c (tCB (rIsi c.K) (tCons ta (tCons (tC (.ty "list")) tNil))) ρ true := ex_isTy ha (show ("list" : String) ≠ "" by decide) rfl
theorem bx_intI (ha : TX c ta ρ i) : BX c (tCB (rIsi c.K) (tCons ta (tCons (tC (.ty "int")) tNil))) ρ true := ex_isTy ha (show ("int" : String) ≠ "" by decide) rfl
theorem bx_intB (ha : TX c ta ρ i) : BX c (tCB (rIsi c.K) (tCons ta (tCons (tC (.ty "bool")) tNil))) ρ false := ex_isTy ha (show ("int" : String) ≠ "" by decide) rfl
theorem bx_boolB (ha : BX c ta ρ b) : BX c (tCB (rIsi c.K) (tCons ta (tCons (tC (.ty "bool")) tNil))) ρ true := ex_isTy ha (show ("bool" : String) ≠ "" by decide) rfl
end
/-! ### zip -/
section
variable {α β : Type} {iα : Dat α} {iβ : Dat β} {c : Cfg} {ρ : Rho} {ta tb : TE} {P : Posts} {tz : TS}
theorem newPair {G B H : Hp} {σ : L2.St} {x y : V} {d1 d2 : D} {T : Addr} (E : Env c G B H σ ρ) (hT : H T = none) (r1 : DR c B x d1) (r2 : DR c B y d2) : ∃ B', Step B H B' (upd H T (.tup [x, y])) ∧ DR c B' (.ref T) (.tup [d1, d2]) := by
  have R : ResL c B H H 0 [x, y] [d1, d2] := ResL.of (.refl E.bh) (.cons r1 (.cons r2 .nil))
  obtain ⟨B', S, T', f, o⟩ := Res.give (newTup R hT)
  exact ⟨B', T', o.2⟩
theorem run_forZ {k l : Nat} (xs : List α) (ys : List β) (I : Nat → Rho → Prop) (hx : TX c ta ρ xs) (hy : TX c tb ρ ys) (hl : xs.length = ys.length) (h0 : I 0 ρ)
    (hs : ∀ (i : Nat) (x : α) (y : β) ρ', xs[i]? = some x → ys[i]? = some y → I i ρ' → Run c tz ((ρ'.set k (some (0, Dat.d x))).set l (some (0, Dat.d y))) { nx := I (i + 1), rt := P.rt, bk := P.nx, ct := I (i + 1) })
    (hd : ∀ ρ', I xs.length ρ' → P.nx ρ') : Run c (tFor (iZip c.K (tCons ta (tCons tb tNil))) (gTup c.K 2 (gCons (gName k) (gCons (gName l) gNil))) tz) ρ P := fun B0 G B H σ E e0 b m => by
    unfold tFor iZip
    refine EA.at0 (ea_cons hx (ea_cons hy ea_nil)) e0 fun us B1 H1 T1 r E1 => ?_
    cases r with
    | cons r1 r =>
      cases r with
      | cons r2 r =>
        cases r
        obtain ⟨a1, us1, rfl, ha1, hus1⟩ := DR.lst_inv r1
        obtain ⟨a2, us2, rfl, ha2, hus2⟩ := DR.lst_inv r2
        have l1 : us1.length = xs.length := by rw [hus1.length, List.length_map]
        have l2 : us2.length = ys.length := by rw [hus2.length, List.length_map]
        have b1 := b.step e0.gh T1
        refine ⟨a1, a2, us1, us2, rfl, .of (E1.bh _ _ ha1), .of (E1.bh _ _ ha2), RZ.for_zipL (xs := us1) (ys := us2) (by rw [l1, l2, hl]) (fun i σ' H' => ∃ ρ' B', I i ρ' ∧ Env c G B' H' σ' ρ' ∧ Base B1 G B') ⟨ρ, B1, h0, E1, .refl⟩ (fun i σ' H' ⟨ρ', B', _, e', b'⟩ => ⟨.of (e'.bh _ _ (b'.1 _ _ ha1)), .of (e'.bh _ _ (b'.1 _ _ ha2))⟩) (fun i x y T σ' H' hx hy ⟨ρ', B', hI, e', b'⟩ hT => ?_) fun σ' H' ⟨ρ', B', hI, e', b'⟩ => ?_⟩
        · obtain ⟨d1, hd1, hr1⟩ := hus1.getV hx
          rw [List.getElem?_map] at hd1
          obtain ⟨u, hu, rfl⟩ := Option.map_eq_some_iff.mp hd1
          obtain ⟨d2, hd2, hr2⟩ := hus2.getV hy
          rw [List.getElem?_map] at hd2
          obtain ⟨w, hw, rfl⟩ := Option.map_eq_some_iff.mp hd2
          obtain ⟨B2, T2, r2⟩ := newPair e' hT (hr1.mono b'.1) (hr2.mono b'.1)
          have b2 := b'.step e'.gh T2
          refine gt_two (i := k) (j := l) G B2 _ σ' ρ' _ _ (e'.step T2) r2 fun σ2 e2 _ _ => ?_
          refine hs i u w ρ' hu hw hI B1 G B2 _ σ2 _ e2 b2 ⟨?_, ?_, ?_, ?_⟩
          · exact fun B2 H2 σ3 ρ3 z e3 b3 => ⟨ρ3, B2, z, e3, b3⟩
          · exact fun v2 H2 n2 d2 z R => m.rt v2 H2 n2 d2 z (b1.res2 R)
          · exact fun B2 H2 σ3 ρ3 z e3 b3 => m.nx B2 H2 σ3 ρ3 z e3 (b1.trans b3)
          · exact fun B2 H2 σ3 ρ3 z e3 b3 => ⟨ρ3, B2, z, e3, b3⟩
        · rw [l1] at hI
          exact m.nx B' H' σ' ρ' (hd ρ' hI) e' (b1.trans b')
/-- a search through two lists: bad tells at which pairs it hands back early -/
theorem run_allZM {k l : Nat} (xs : List α) (ys : List β) (bad : α → β → Bool) (Fr : Rho → Prop) (hx : TX c ta ρ xs) (hy : TX c tb ρ ys) (hl : xs.length = ys.length) (h0 : Fr ρ)
    (hs : ∀ x y ρ', x ∈ xs → y ∈ ys → Fr ρ' → Run c tz ((ρ'.set k (some (0, Dat.d x))).set l (some (0, Dat.d y))) { nx := fun ρ2 => bad x y = false ∧ Fr ρ2, rt := fun m d => bad x y = true ∧ ((xs.zip ys).all (fun p => !bad p.1 p.2) = false → P.rt m d), bk := fun _ => False, ct := fun ρ2 => bad x y = false ∧ Fr ρ2 })
    (hd : ∀ ρ', (xs.zip ys).all (fun p => !bad p.1 p.2) = true → Fr ρ' → P.nx ρ') : Run c (tFor (iZip c.K (tCons ta (tCons tb tNil))) (gTup c.K 2 (gCons (gName k) (gCons (gName l) gNil))) tz) ρ P := by
  have zget : ∀ {j : Nat} {x : α} {y : β}, xs[j]? = some x → ys[j]? = some y → (xs.zip ys)[j]? = some (x, y) := fun {j x y} h1 h2 => by
    rw [List.getElem?_zip_eq_some]
    exact ⟨h1, h2⟩
  refine run_forZ xs ys (fun i ρ' => (∀ j x y, j < i → xs[j]? = some x → ys[j]? = some y → bad x y = false) ∧ Fr ρ') hx hy hl ⟨fun _ _ _ z => absurd z (Nat.not_lt_zero _), h0⟩ (fun i x y ρ' ex ey ⟨h1, h2⟩ => ?_) fun ρ' ⟨h1, h2⟩ => ?_
  · have ext : bad x y = false → ∀ j x y, j < i + 1 → xs[j]? = some x → ys[j]? = some y → bad x y = false := fun q j x' y' hj e1 e2 => by
      by_cases e : j = i
      · rw [e, ex] at e1
        rw [e, ey] at e2
        cases e1
        cases e2
        exact q
      · exact h1 j x' y' (by omega) e1 e2
    refine run_mono (hs x y ρ' (List.mem_of_getElem? ex) (List.mem_of_getElem? ey) h2) (fun ρ2 ⟨q1, q2⟩ => ⟨ext q1, q2⟩) (fun m d ⟨q1, q2⟩ => q2 ?_) (fun _ z => z.elim) (fun ρ2 ⟨q1, q2⟩ => ⟨ext q1, q2⟩)
    rw [List.all_eq_false]
    exact ⟨(x, y), List.mem_of_getElem? (zget ex ey), by rw [q1]; decide⟩
  · refine hd ρ' ?_ h2
    rw [List.all_eq_true]
    rintro ⟨x, y⟩ hm
    obtain ⟨j, hj, e⟩ := List.getElem_of_mem hm
    have e' : (xs.zip ys)[j]? = some (x, y) := by rw [List.getElem?_eq_getElem hj, e]
    rw [List.getElem?_zip_eq_some] at e'
    have hj' := (List.getElem?_eq_some_iff.mp e'.1).1
    rw [h1 j x y hj' e'.1 e'.2]
    rfl
end
/-! ### a list within the frame's own list is lengthened; the whole is read no more -/
section
variable {c : Cfg} {ρ : Rho} {n : Nat} {ta te ti : TE} {P : Posts} {ds es : List D} {d : D} {i : Int}
theorem OwnL.get {p : (Addr → Prop) → V → D → Prop} : ∀ {S : Addr → Prop} {vs : List V} {ds : List D} {j : Nat} {d : D}, OwnL p S vs ds → ds[j]? = some d → ∃ v S1, vs[j]? = some v ∧ p S1 v d ∧ ∀ a, S1 a → S a
  | _, [], [], _, _, _, e => by simp at e
  | S, v :: vs, d :: ds, 0, _, ⟨S1, S2, h1, h2, h3, h4⟩, e => by
    simp at e
    subst e
    exact ⟨v, S1, rfl, h1, fun a z => (h4 a).mpr (.inl z)⟩
  | S, v :: vs, d :: ds, j + 1, d', ⟨S1, S2, h1, h2, h3, h4⟩, e => by
    obtain ⟨w, S3, g1, g2, g3⟩ := OwnL.get (j := j) (d := d') h2 (by simpa using e)
    exact ⟨w, S3, by simpa using g1, g2, fun a z => (h4 a).mpr (.inr (g3 a z))⟩
  | _, [], _ :: _, _, _, h, _ => h.elim
  | _, _ :: _, [], _, _, h, _ => h.elim
/-- an entry is given up and what it owned is changed -/
theorem Env.spoil {G B H : Hp} {σ : L2.St} {l : Nat} {m : Nat} {d : D} {o : HO} (E : Env c G B H σ ρ) (hl : ρ[l]? = some (some (m, d))) {S : Addr → Prop} {b : Addr} (hb : ∀ v, σ[l]? = some (some v) → True) (hS : ∀ Ss : Nat → Addr → Prop, (∀ v, σ[l]? = some (some v) → Own c B H m (Ss l) v d → Ss l b)) : Env c G B (upd H b o) σ (ρ.set l none) := by
  obtain ⟨Ss, h1, h2, h3⟩ := E.own
  obtain ⟨v, hv, ho⟩ := h3 l _ _ hl
  have hs := hS Ss v hv ho
  have hB := (ho.there b hs).1
  refine ⟨Ex.mut E.bh hB, Ex.mut E.gh (h2 l b hs), by rw [List.length_set, E.len], Ss, h1, h2, fun j m' d' q => ?_⟩
  by_cases hj : j = l
  · subst hj
    rw [List.getElem?_set_self (List.getElem?_eq_some_iff.mp hl).1] at q
    cases q
  · rw [List.getElem?_set_ne (Ne.symm hj)] at q
    obtain ⟨u, hu, hw⟩ := h3 j m' d' q
    refine ⟨u, hu, hw.frame (Ex.refl _) (fun a z => (hw.there a z).1) fun a o' z w => ?_⟩
    rw [upd_ne (fun e => hj (h1 j l a z (by rw [e]; exact hs)))]
    exact w
theorem run_appIn {l : Nat} (hl : ρ[l]? = some (some (n + 2, .lst ds))) (hi : EX c ti ρ 0 (.int i)) (hd : atI ds i = some (.lst es)) (h : EX c te ρ 0 d) (hz : es.length < 100000) (k : P.nx (ρ.set l none)) :
    Run c (tDrop (tBM c.K "list" rAppend (tOp (rIxL c.K) (tVar l) ti) (tCons te tNil))) ρ P := fun B0 G B H σ E e b m => by
  obtain ⟨j, hj, hj2⟩ := atI_some hd
  obtain ⟨Ss0, _, _, h30⟩ := id e.own
  obtain ⟨v, hv, a, vs, S1, rfl, hH, hB, hO, hn, hS1⟩ := h30 l _ _ hl
  refine ⟨_, hv, hi.int e fun B1 H1 T1 e1 => ?_⟩
  have hlen : vs.length = ds.length := OwnL.length hO
  obtain ⟨x, S2, hx, hw, hsub⟩ := OwnL.get hO hj
  obtain ⟨a2, ws, S3, rfl, hH2, hB2, hO2, hn2, hS2⟩ := hw
  have hx' : atI vs i = some (.ref a2) := by
    unfold atI
    rw [hlen, hj2]
    exact hx
  refine ⟨a, vs, i, _, rfl, rfl, .of (T1.hH _ _ hH), hx', .inl ⟨rfl, _, .of (T1.hH _ _ hH2)⟩, h.at0 e1 fun y B2 H2 T2 r2 e2 => ?_⟩
  refine ⟨a2, ws, y, rfl, rfl, T2.hH _ _ (T1.hH _ _ hH2), szl _ (by rw [OwnL.length hO2]; exact hz), ?_⟩
  have T := T1.trans T2
  refine m.nx B2 _ σ _ k (e2.spoil (b := a2) (S := S1) hl (fun _ _ => trivial) fun Ss v' hv' ho' => ?_) (b.step e.gh T)
  rw [hv] at hv'
  cases hv'
  obtain ⟨a', vs', S1', e0, hH', hB', hO', hn', hS1'⟩ := ho'
  cases e0
  rw [T.hH _ _ hH] at hH'
  cases hH'
  obtain ⟨x', S2', hx2, hw', hsub'⟩ := OwnL.get hO' hj
  rw [hx] at hx2
  cases hx2
  obtain ⟨a3, ws', S3', e3, _, _, _, _, hS2'⟩ := hw'
  cases e3
  exact (hS1' _).mpr (.inr (hsub' _ ((hS2' _).mpr (.inl rfl))))
end
end DL
namespace DL
open PySem L2
/-! ### [x for x in xs if ..] of the frame's own list of lists, handed back -/
section
variable {α : Type} {c : Cfg} {ρ : Rho} {tt : TT} {P : Posts}
def pick (us : List V) (xs : List α) (p : α → Bool) : List V := ((us.zip xs).filter fun q => p q.2).map (·.1)
theorem pick_le {us : List V} {xs : List α} {p : α → Bool} : (pick us xs p).length ≤ us.length := by
  unfold pick
  rw [List.length_map]
  refine Nat.le_trans (List.length_filter_le ..) ?_
  rw [List.length_zip]
  exact Nat.min_le_left _ _
theorem OwnL.pick {e : α → D} {p : α → Bool} {R : (Addr → Prop) → V → D → Prop} : ∀ {S : Addr → Prop} {us : List V} {xs : List α}, OwnL R S us (xs.map e) → ∃ S', OwnL R S' (DL.pick us xs p) ((xs.filter p).map e) ∧ ∀ a, S' a → S a
  | S, [], [], h => ⟨S, h, fun _ z => z⟩
  | S, v :: vs, x :: xs, ⟨S1, S2, h1, h2, h3, h4⟩ => by
    obtain ⟨T, g1, g2⟩ := OwnL.pick (p := p) h2
    cases q : p x with
    | true =>
      refine ⟨fun a => S1 a ∨ T a, ?_, fun a z => (h4 a).mpr (z.elim .inl fun y => .inr (g2 a y))⟩
      unfold DL.pick
      rw [List.zip_cons_cons, List.filter_cons, if_pos q, List.filter_cons, if_pos q]
      exact ⟨S1, T, h1, g1, fun a z y => h3 a z (g2 a y), fun _ => Iff.rfl⟩
    | false =>
      refine ⟨T, ?_, fun a z => (h4 a).mpr (.inr (g2 a z))⟩
      unfold DL.pick
      rw [List.zip_cons_cons, List.filter_cons, if_neg (by rw [q]; decide), List.filter_cons, if_neg (by rw [q]; decide)]
      exact g1
  | _, [], _ :: _, h => h.elim
  | _, _ :: _, [], h => h.elim
theorem pick_at {us : List V} {xs : List α} {p : α → Bool} {i : Nat} {v : V} {x : α} (h1 : us[i]? = some v) (h2 : xs[i]? = some x) : DL.pick (us.take (i + 1)) (xs.take (i + 1)) p = DL.pick (us.take i) (xs.take i) p ++ if p x = true then [v] else [] := by
  have hi := (List.getElem?_eq_some_iff.mp h1).1
  have hj := (List.getElem?_eq_some_iff.mp h2).1
  unfold DL.pick
  rw [take_at h1, take_at h2, List.zip_append (by rw [List.length_take, List.length_take]; omega), List.filter_append, List.map_append]
  cases q : p x with
  | true => simp [q]
  | false => simp [q]
variable {iα : Dat α}
theorem run_retFilt {l k : Nat} (xs : List (List α)) (p : List α → Bool) (hl : ρ[l]? = some (some (2, Dat.d xs))) (ht : ∀ x ∈ xs, ET c tt ((wipeR (cur ρ) [k]).set k (some (0, Dat.d x))) (p x)) (hz : xs.length < 100000) (hk : k < ρ.length) (q : P.rt 2 (Dat.d (xs.filter p))) :
    Run c (tRet (tLc (iList c.K (tVar l)) (gName k) tt (tVar k) [k])) ρ P := fun B0 G B H σ E e b m => by
  obtain ⟨Ss, h1, h2, h3⟩ := id e.own
  obtain ⟨v, hv, a, us, S1, rfl, hH, hB, hO, hn, hS⟩ := h3 l _ _ hl
  have lus : us.length = xs.length := by rw [OwnL.length hO, List.length_map]
  have E0 := e.cur
  have hds : DRs c H us (xs.map Dat.d) := OwnL.drs (fun S1 v d z w => Own.give e.bh (fun _ _ _ q => q) w) hO
  refine ⟨_, hv, a, rfl, ⟨us, .of hH⟩, fun L hL => lc_list (xs := us) (fun i H' => H' L = some (.lst (DL.pick (us.take i) (xs.take i) p)) ∧ Ex H H') ⟨upd_same, Ex.new hL⟩ (fun i H' _ W => .of (W.2 _ _ hH)) (fun i y H' hy W => ?_) fun H' W => ?_⟩
  · obtain ⟨w1, w2⟩ := W
    obtain ⟨d, hd, hr⟩ := hds.getV hy
    rw [List.getElem?_map] at hd
    obtain ⟨x, hx, rfl⟩ := Option.map_eq_some_iff.mp hd
    have Ew := (E0.grow w2).wipe [k]
    obtain ⟨B2, E2, T2⟩ := Ew.bind k (Res.imm (.refl Ew.bh) hr)
    refine ⟨?_, ?_⟩
    · refine wipe_eq ((List.length_set ..).trans (wipe_length ..)) fun m hm => (List.getElem?_set_ne fun z => hm (by rw [z]; exact List.mem_singleton.mpr rfl)).trans (wipe_out hm)
    · have hks : ((wipe σ [k]).set k (some y))[k]? = some (some y) := List.getElem?_set_self (by rw [wipe_length, e.len]; exact hk)
      refine ht x (List.mem_of_getElem? hx) _ _ H' _ E2 _ fun H3 x3 => ?_
      have w3 : H3 L = some (.lst (DL.pick (us.take i) (xs.take i) p)) := x3 _ _ w1
      rw [pick_at hy hx]
      cases qx : p x with
      | true =>
        refine ⟨y, hks, _, w3, szl _ ?_, upd_same, fun b o z => ?_⟩
        · refine Nat.lt_of_le_of_lt pick_le ?_
          rw [List.length_take]
          omega
        · rw [upd_ne (ne_of_none z hL)]
          exact x3 _ _ (w2 _ _ z)
      | false =>
        show _ ∧ _
        rw [if_neg (by decide), List.append_nil]
        exact ⟨w3, w2.trans x3⟩
  · obtain ⟨w1, w2⟩ := W
    rw [List.take_length, lus, List.take_length] at w1
    obtain ⟨S', g1, g2⟩ := OwnL.pick (p := p) hO
    have nL : ¬ S' L := fun z => by
      obtain ⟨_, o, ho⟩ := hO.thereE L (g2 L z)
      rw [hL] at ho; cases ho
    refine m.rt _ H' 2 _ q ⟨B, fun a => a = L ∨ S' a, ⟨e.gh.trans w2, b.1, e.bh.trans w2, b.2⟩, fun a z => ?_, L, _, S', rfl, w1, Ex.back e.bh hL, ?_, nL, fun _ => Iff.rfl⟩
    · rcases z with z | z
      · rw [z]; exact Ex.back e.gh hL
      · exact h2 l a ((hS a).mpr (.inr (g2 a z)))
    · exact g1.frame (Ex.refl _) (fun a z => (hO.thereE a (g2 a z)).1) fun a o _ z => w2 a o z
end
end DL
namespace DL
open PySem L2
/-! ### what stands at one slot is put at another one, and told there alone -/
section
variable {c : Cfg} {ρ : Rho} {P : Posts} {n : Nat} {d : D}
theorem Env.move {G B H : Hp} {σ : L2.St} {i j : Nat} {v : V} (E : Env c G B H σ ρ) (hi : ρ[i]? = some (some (n, d))) (hv : σ[i]? = some (some v)) (hij : i ≠ j) : Env c G B H (σ.set j (some v)) ((ρ.set j (some (n, d))).set i none) := by
  obtain ⟨Ss, h1, h2, h3⟩ := E.own
  have hlt : i < ρ.length := (List.getElem?_eq_some_iff.mp hi).1
  refine ⟨E.bh, E.gh, by rw [List.length_set, List.length_set, List.length_set, E.len], fun k a => if k = j then Ss i a else if k = i then False else Ss k a, fun k l a z y => ?_, fun k a z => ?_, fun k m d' q => ?_⟩
  · dsimp only at z y
    by_cases e1 : k = j
    · rw [if_pos e1] at z
      by_cases e2 : l = j
      · rw [e1, e2]
      · rw [if_neg e2] at y
        by_cases e3 : l = i
        · rw [if_pos e3] at y; exact y.elim
        · rw [if_neg e3] at y; exact absurd (h1 i l a z y).symm e3
    · rw [if_neg e1] at z
      by_cases e4 : k = i
      · rw [if_pos e4] at z; exact z.elim
      · rw [if_neg e4] at z
        by_cases e2 : l = j
        · rw [if_pos e2] at y; exact absurd (h1 k i a z y) e4
        · rw [if_neg e2] at y
          by_cases e3 : l = i
          · rw [if_pos e3] at y; exact y.elim
          · rw [if_neg e3] at y; exact h1 k l a z y
  · dsimp only at z
    by_cases e1 : k = j
    · rw [if_pos e1] at z; exact h2 i a z
    · rw [if_neg e1] at z
      by_cases e4 : k = i
      · rw [if_pos e4] at z; exact z.elim
      · rw [if_neg e4] at z; exact h2 k a z
  · by_cases e1 : k = i
    · subst e1
      rw [List.getElem?_set_self (by rw [List.length_set]; exact hlt)] at q
      cases q
    · rw [List.getElem?_set_ne (Ne.symm e1)] at q
      by_cases e2 : k = j
      · subst e2
        have hj : k < ρ.length := by
          have := (List.getElem?_eq_some_iff.mp q).1
          rwa [List.length_set] at this
        rw [List.getElem?_set_self hj] at q
        cases q
        obtain ⟨u, hu, ho⟩ := h3 i _ _ hi
        rw [hv] at hu
        cases hu
        refine ⟨v, List.getElem?_set_self (by rw [E.len]; exact hj), ?_⟩
        have e : (fun a => if k = k then Ss i a else if k = i then False else Ss k a) = Ss i := by funext a; exact if_pos rfl
        show Own c B H n (fun a => if k = k then Ss i a else if k = i then False else Ss k a) v d
        rw [e]
        exact ho
      · rw [List.getElem?_set_ne (Ne.symm e2)] at q
        obtain ⟨u, hu, ho⟩ := h3 k _ _ q
        refine ⟨u, by rw [List.getElem?_set_ne (Ne.symm e2)]; exact hu, ?_⟩
        have e : (fun a => if k = j then Ss i a else if k = i then False else Ss k a) = Ss k := by
          funext a
          rw [if_neg e2, if_neg e1]
        show Own c B H m (fun a => if k = j then Ss i a else if k = i then False else Ss k a) u d'
        rw [e]
        exact ho
theorem run_move {i j : Nat} (hi : ρ[i]? = some (some (n, d))) (hij : i ≠ j) (q : P.nx ((ρ.set j (some (n, d))).set i none)) : Run c (tAsg (tVar i) (gName j)) ρ P := fun B0 G B H σ E e b m => by
  obtain ⟨Ss, _, _, h3⟩ := id e.own
  obtain ⟨v, hv, _⟩ := h3 i _ _ hi
  exact ⟨v, hv, m.nx B H _ _ q (e.move hi hv hij) b⟩
end
end DL
namespace DL
open PySem L2
section
variable {α β γ ι : Type} {iα : Dat α} {iβ : Dat β} {iγ : Dat γ} {c : Cfg} {ρ : Rho} {P : Posts} {te : TE} {k l m : Nat}
theorem run_asg2 {p : α × β} (h : TX c te ρ p) (q : P.nx ((ρ.set k (some (0, Dat.d p.1))).set l (some (0, Dat.d p.2)))) : Run c (tAsg te (gTup c.K 2 (gCons (gName k) (gCons (gName l) gNil)))) ρ P := run_setG h gt_pair q
theorem run_asg3 {p : Tri α β γ} (h : TX c te ρ p) (q : P.nx (((ρ.set k (some (0, Dat.d p.a))).set l (some (0, Dat.d p.b))).set m (some (0, Dat.d p.c)))) : Run c (tAsg te (gTup c.K 3 (gCons (gName k) (gCons (gName l) (gCons (gName m) gNil))))) ρ P := run_setG h gt_tri q
theorem run_setRG {args : ι → List D} {pre : ι → Prop} {rel : ι → D → Prop} {ta : TA} {E : XK} {g : TG} {up : D → Rho → Rho} {ws : D → List Nat} (x : ι) (ha : EA c ta ρ 0 (args x)) (hp : pre x) (hg : ∀ d, rel x d → GT c g d (up d) (ws d)) (q : ∀ d, rel x d → P.nx (up d ρ)) : Run c (tAsg (tCall (spG c args pre 0 rel) [] E ta) g) ρ P := fun B0 G B H σ Z e b m =>
  ha.at0 e fun vs B1 H1 T1 r e1 => ⟨x, B1, hp, e1.bh, by rw [List.append_nil]; exact r, fun v H' d hd R => by
    obtain ⟨B', S, T, f, o⟩ := R.trans T1
    refine hg d hd G B' H' σ ρ v _ (e.step T) o.2 fun σ' e' _ _ => ?_
    exact m.nx B' H' σ' _ (q d hd) e' (b.step e.gh T)⟩
/-- a pair by a relation, its halves put at two slots -/
theorem run_asgR {args : ι → List D} {pre : ι → Prop} {rel : ι → α → β → Prop} {ta : TA} {E : XK} (x : ι) (ha : EA c ta ρ 0 (args x)) (hp : pre x) (q : ∀ a b, rel x a b → P.nx ((ρ.set k (some (0, Dat.d a))).set l (some (0, Dat.d b)))) :
    Run c (tAsg (tCall (spG c args pre 0 (fun x d => ∃ a b, d = Dat.d (a, b) ∧ rel x a b)) [] E ta) (gTup c.K 2 (gCons (gName k) (gCons (gName l) gNil)))) ρ P := fun B0 G B H σ Z e b m =>
  ha.at0 e fun vs B1 H1 T1 r e1 => ⟨x, B1, hp, e1.bh, by rw [List.append_nil]; exact r, fun v H' d hd R => by
    obtain ⟨u, w, rfl, hr⟩ := hd
    obtain ⟨B', S, T, f, o⟩ := R.trans T1
    refine gt_pair (p := (u, w)) G B' H' σ ρ v _ (e.step T) o.2 fun σ' e' _ _ => ?_
    exact m.nx B' H' σ' _ (q u w hr) e' (b.step e.gh T)⟩
end
end DL
namespace DL
theorem zip_self_all {α : Type} [DecidableEq α] : ∀ xs : List α, (xs.zip xs).all (fun p => !!decide (p.1 = p.2)) = true
  | [] => rfl
  | x :: xs => by rw [List.zip_cons_cons, List.all_cons, zip_self_all xs]; simp
theorem zip_all_eq {α : Type} [DecidableEq α] : ∀ {xs ys : List α}, xs.length = ys.length → (xs.zip ys).all (fun p => !!decide (p.1 = p.2)) = true → xs = ys
  | [], [], _, _ => rfl
  | [], _ :: _, h, _ => by cases h
  | _ :: _, [], h, _ => by cases h
  | x :: xs, y :: ys, h, q => by
    rw [List.zip_cons_cons, List.all_cons, Bool.and_eq_true] at q
    have e : x = y := by simpa using q.1
    rw [e, zip_all_eq (Nat.succ.inj h) q.2]
end DL

/-! DBaseC: the first pair of a table of lists that a test lets by, handed back; a list within a tuple is lengthened. -/
namespace DL
open PySem L2
section
variable {α : Type} {iα : Dat α} {c : Cfg} {ρ : Rho} {tt : TT} {P : Posts} {ds es : List D} {d : D} {i : Int} {ti te : TE} {n : Nat}
theorem run_appInT {l : Nat} (hl : ρ[l]? = some (some (n + 2, .tup ds))) (hi : EX c ti ρ 0 (.int i)) (hd : atI ds i = some (.lst es)) (h : EX c te ρ 0 d) (hz : es.length < 100000) (k : P.nx (ρ.set l none)) :
    Run c (tDrop (tBM c.K "list" rAppend (tOp (rIxT c.K) (tVar l) ti) (tCons te tNil))) ρ P := fun B0 G B H σ E e b m => by
  obtain ⟨j, hj, hj2⟩ := atI_some hd
  obtain ⟨Ss0, _, _, h30⟩ := id e.own
  obtain ⟨v, hv, a, vs, S1, rfl, hH, hB, hO, hn, hS1⟩ := h30 l _ _ hl
  refine ⟨_, hv, hi.int e fun B1 H1 T1 e1 => ?_⟩
  have hlen : vs.length = ds.length := OwnL.length hO
  obtain ⟨x, S2, hx, hw, hsub⟩ := OwnL.get hO hj
  obtain ⟨a2, ws, S3, rfl, hH2, hB2, hO2, hn2, hS2⟩ := hw
  have hx' : atI vs i = some (.ref a2) := by
    unfold atI
    rw [hlen, hj2]
    exact hx
  refine ⟨a, vs, i, _, rfl, rfl, .of (T1.hH _ _ hH), hx', .inl ⟨rfl, _, .of (T1.hH _ _ hH2)⟩, h.at0 e1 fun y B2 H2 T2 r2 e2 => ?_⟩
  refine ⟨a2, ws, y, rfl, rfl, T2.hH _ _ (T1.hH _ _ hH2), szl _ (by rw [OwnL.length hO2]; exact hz), ?_⟩
  have T := T1.trans T2
  refine m.nx B2 _ σ _ k (e2.spoil (b := a2) (S := S1) hl (fun _ _ => trivial) fun Ss v' hv' ho' => ?_) (b.step e.gh T)
  rw [hv] at hv'
  cases hv'
  obtain ⟨a', vs', S1', e0, hH', hB', hO', hn', hS1'⟩ := ho'
  cases e0
  rw [T.hH _ _ hH] at hH'
  cases hH'
  obtain ⟨x', S2', hx2, hw', hsub'⟩ := OwnL.get hO' hj
  rw [hx] at hx2
  cases hx2
  obtain ⟨a3, ws', S3', e3, _, _, _, _, hS2'⟩ := hw'
  cases e3
  exact (hS1' _).mpr (.inr (hsub' _ ((hS2' _).mpr (.inl rfl))))
theorem off_two {σ σ' : L2.St} {b x k : Nat} (h : (σ'.set b none).set x none = (σ.set b none).set x none) (hb : k ≠ b) (hx : k ≠ x) : σ'[k]? = σ[k]? := by
  have := congrArg (fun s : L2.St => s[k]?) h
  rwa [List.getElem?_set_ne (Ne.symm hx), List.getElem?_set_ne (Ne.symm hb), List.getElem?_set_ne (Ne.symm hx), List.getElem?_set_ne (Ne.symm hb)] at this
/-- for b in range(len(xss)): for x in xss[b]: if ..: return (b, x), xss the frame's own -/
theorem run_find2 {l b x : Nat} (xss : List (List (List α))) (p : Nat → List α → Bool) (hl : ρ[l]? = some (some (3, Dat.d xss))) (hbl : b ≠ l) (hxl : x ≠ l) (hbx : b ≠ x) (hb : b < ρ.length) (hx : x < ρ.length) (hz : xss.length ≤ 100000)
    (ht : ∀ (i : Nat) ys y, xss[i]? = some ys → y ∈ ys → ET c tt (((cur ρ).set b (some (0, .int (i : Int)))).set x (some (0, Dat.d y))) (p i y))
    (hy : ∀ (i : Nat) ys (j : Nat) y, xss[i]? = some ys → ys[j]? = some y → p i y = true → (∀ (i' : Nat) ys', i' < i → xss[i']? = some ys' → ∀ y' ∈ ys', p i' y' = false) → (∀ (j' : Nat) y', j' < j → ys[j']? = some y' → p i y' = false) → P.rt 2 (.tup [.int (i : Int), Dat.d y]))
    (hn : (∀ (i : Nat) ys, xss[i]? = some ys → ∀ y ∈ ys, p i y = false) → P.nx (((ρ.set l none).set b none).set x none)) :
    Run c (tFor (iRng1 (tCons (tCB (lLen c.K) (tCons (tVar l) tNil)) tNil)) (gName b) (tFor (iList c.K (tOp (rIxL c.K) (tVar l) (tVar b))) (gName x) (tIfS tt (tRet (tTup (tCons (tVar b) (tCons (tVar x) tNil)))) tNext))) ρ P := fun B0 G B H σ E e bs m => by
  obtain ⟨Ss, h1, h2, h3⟩ := id e.own
  obtain ⟨v, hv, a, us, S1, rfl, hH, hB, hO, hna, hS⟩ := h3 l _ _ hl
  have lus : us.length = xss.length := by rw [OwnL.length hO, List.length_map]
  have E0 := e.cur
  have hlen : σ.length = ρ.length := e.len
  refine ⟨_, hv, a, us, rfl, .inl (.of hH), (us.length : Int), rfl, by omega, by omega, ?_⟩
  rw [Int.toNat_natCast]
  refine for_range (lo := 0) (n := us.length) (fun i σ' H' => (σ'.set b none).set x none = (σ.set b none).set x none ∧ Ex H H' ∧ ∀ (i' : Nat) ys', i' < i → xss[i']? = some ys' → ∀ y' ∈ ys', p i' y' = false) ⟨rfl, .refl _, fun _ _ z => absurd z (Nat.not_lt_zero _)⟩ (fun i σ' H' hi ⟨w1, w2, w3⟩ => ?_) fun σ' H' ⟨w1, w2, w3⟩ => ?_
  · rw [Int.zero_add]
    have hi' : i < xss.length := by omega
    obtain ⟨ys, hys⟩ : ∃ ys, xss[i]? = some ys := ⟨_, List.getElem?_eq_getElem hi'⟩
    have hys' : (xss.map Dat.d)[i]? = some (Dat.d ys) := by rw [List.getElem?_map, hys]; rfl
    obtain ⟨ui, Si, hui, hoi, hsub⟩ := OwnL.get hO hys'
    obtain ⟨ai, ws, Si1, rfl, hHi, hBi, hOi, hni, hSi⟩ := hoi
    have lws : ws.length = ys.length := by rw [OwnL.length hOi, List.length_map]
    -- the slots: as σ, b told, x whatever
    have hlen' : σ'.length = σ.length := by
      have := congrArg List.length w1
      simpa using this
    have v1 : (σ'.set b (some (.int (i : Int)))).set x none = (σ.set b (some (.int (i : Int)))).set x none := by
      have q := congrArg (fun s : L2.St => s.set b (some (.int (i : Int)))) w1
      rw [List.set_comm _ _ (Ne.symm hbx), List.set_comm _ _ (Ne.symm hbx), List.set_set, List.set_set] at q
      exact q
    have hσb : (σ'.set b (some (.int (i : Int))))[b]? = some (some (.int (i : Int))) := List.getElem?_set_self (by omega)
    have hσl : (σ'.set b (some (.int (i : Int))))[l]? = some (some (.ref a)) := by
      rw [List.getElem?_set_ne hbl, off_two w1 (Ne.symm hbl) (Ne.symm hxl)]
      exact hv
    show tFor _ _ _ _ (σ'.set b (some (.int (i : Int)))) H'
    refine ⟨_, hσl, _, hσb, a, us, (i : Int), _, rfl, rfl, .of (w2 _ _ hH), atI_nat hui, ai, rfl, ⟨ws, .of (w2 _ _ hHi)⟩, ?_⟩
    refine for_list (xs := ws) (fun j σ2 H2 => σ2.set x none = (σ.set b (some (.int (i : Int)))).set x none ∧ Ex H H2 ∧ ∀ (j' : Nat) y', j' < j → ys[j']? = some y' → p i y' = false) ⟨v1, w2, fun _ _ z => absurd z (Nat.not_lt_zero _)⟩ (fun j σ2 H2 _ z => .of (z.2.1 _ _ hHi)) (fun j u σ2 H2 hu ⟨z1, z2, z3⟩ => ?_) fun σ2 H2 ⟨z1, z2, z3⟩ => ?_
    · have hj : j < ys.length := by
        have := (List.getElem?_eq_some_iff.mp hu).1
        omega
      obtain ⟨y, hyj⟩ : ∃ y, ys[j]? = some y := ⟨_, List.getElem?_eq_getElem hj⟩
      have hyj' : (ys.map Dat.d)[j]? = some (Dat.d y) := by rw [List.getElem?_map, hyj]; rfl
      obtain ⟨u', Sj, hu', hoj, hsubj⟩ := OwnL.get hOi hyj'
      rw [hu] at hu'
      cases hu'
      have hym : y ∈ ys := List.mem_of_getElem? hyj
      have hdr : DR c H u (Dat.d y) := Own.give e.bh (fun _ _ _ q => q) hoj
      have l2 : σ2.length = σ.length := by
        have := congrArg List.length z1
        simpa using this
      have e3 : σ2.set x (some u) = (σ.set b (some (.int (i : Int)))).set x (some u) := by
        have q := congrArg (fun s : L2.St => s.set x (some u)) z1
        rw [List.set_set, List.set_set] at q
        exact q
      show tIfS _ _ _ _ (σ2.set x (some u)) H2
      rw [e3]
      obtain ⟨B1, E1, T1⟩ := (E0.grow z2).bind b (Res.imm (.refl (E0.grow z2).bh) (DR.int (c := c) (H := H) (i : Int)))
      obtain ⟨B2, E2, T2⟩ := E1.bind x (Res.imm (.refl E1.bh) (hdr.mono T1.hB))
      refine ht i ys y hys hym _ _ H2 _ E2 _ fun H3 x3 => ?_
      cases hp : p i y with
      | true =>
        rw [if_pos (rfl : true = true)]
        have sb : ((σ.set b (some (.int (i : Int)))).set x (some u))[b]? = some (some (.int (i : Int))) := by
          rw [List.getElem?_set_ne (Ne.symm hbx)]
          exact List.getElem?_set_self (by omega)
        have sx : ((σ.set b (some (.int (i : Int)))).set x (some u))[x]? = some (some u) := List.getElem?_set_self (by rw [List.length_set]; omega)
        refine ⟨_, sb, _, sx, sz _ (show 2 ≤ 100000 by decide), fun T hT => ?_⟩
        have w4 := z2.trans x3
        have nT : H T = none := Ex.back w4 hT
        have nSj : ¬ Sj T := fun q => by
          obtain ⟨_, o, ho⟩ := hoj.there T q
          rw [nT] at ho; cases ho
        refine m.rt _ _ 2 _ (hy i ys j y hys hyj hp w3 z3) ⟨B, fun q => q = T ∨ Sj q, ⟨(e.gh.trans w4).trans (Ex.new hT), bs.1, (e.bh.trans w4).trans (Ex.new hT), bs.2⟩, fun q z => ?_, T, _, Sj, rfl, upd_same, Ex.back e.bh nT, ?_, nSj, fun _ => Iff.rfl⟩
        · rcases z with z | z
          · rw [z]; exact Ex.back e.gh nT
          · exact h2 l q ((hS q).mpr (.inr (hsub q ((hSi q).mpr (.inr (hsubj q z))))))
        · refine ⟨fun _ => False, Sj, ⟨fun _ z => z, rfl⟩, OwnL.one ?_, fun _ z => z.elim, fun q => ⟨.inr, fun z => z.elim (fun y => y.elim) id⟩⟩
          refine hoj.frame (Ex.refl _) (fun q z => (hoj.there q z).1) fun q o z w => ?_
          rw [upd_ne (fun e' => nSj (by rw [← e']; exact z))]
          exact w4 _ _ w
      | false =>
        rw [if_neg (by decide)]
        show _ ∧ _
        refine ⟨?_, z2.trans x3, fun j' y' hj' hy' => ?_⟩
        · rw [List.set_set]
        · by_cases w : j' = j
          · rw [w, hyj] at hy'
            cases hy'
            exact hp
          · exact z3 j' y' (by omega) hy'
    · show _ ∧ _
      refine ⟨?_, z2, fun i' ys' hi2 hys2 y' hy' => ?_⟩
      · have q := congrArg (fun s : L2.St => s.set b none) z1
        rw [List.set_comm _ _ (Ne.symm hbx), List.set_comm _ _ (Ne.symm hbx), List.set_set] at q
        exact q
      · by_cases w : i' = i
        · rw [w, hys] at hys2
          cases hys2
          obtain ⟨j', hj', e'⟩ := List.getElem_of_mem hy'
          rw [w]
          exact z3 j' y' (by omega) (by rw [List.getElem?_eq_getElem hj', e'])
        · exact w3 i' ys' (by omega) hys2 y' hy'
  · have l2 : σ'.length = σ.length := by
      have := congrArg List.length w1
      simpa using this
    refine m.nx B H' σ' _ (hn fun i ys hys y hy => w3 i ys (by have := (List.getElem?_eq_some_iff.mp hys).1; omega) hys y hy) ?_ bs
    refine ⟨e.bh.trans w2, e.gh.trans w2, by rw [List.length_set, List.length_set, List.length_set, l2, hlen], Ss, h1, h2, fun k n' d' q => ?_⟩
    have kx : k ≠ x := fun w => by
      subst w
      rw [List.getElem?_set_self (by rw [List.length_set, List.length_set]; exact hx)] at q
      cases q
    rw [List.getElem?_set_ne (Ne.symm kx)] at q
    have kb : k ≠ b := fun w => by
      subst w
      rw [List.getElem?_set_self (by rw [List.length_set]; exact hb)] at q
      cases q
    rw [List.getElem?_set_ne (Ne.symm kb)] at q
    have kl : k ≠ l := fun w => by
      subst w
      rw [List.getElem?_set_self (List.getElem?_eq_some_iff.mp hl).1] at q
      cases q
    rw [List.getElem?_set_ne (Ne.symm kl)] at q
    obtain ⟨u, hu, ho⟩ := h3 k n' d' q
    exact ⟨u, by rw [off_two w1 kb kx]; exact hu, ho.frame (Ex.refl _) (fun q z => (ho.there q z).1) fun q o _ z => w2 _ _ z⟩
end
end DL
namespace DL
open PySem PySem.Spec PyProof.Rows L2
/-! ### list.count over data -/
def rCountD (K : PySem.W.Frag) : V → List V → Hp → VK → Prop := fun x xs H Q => ∃ (a : Addr) (y : V) (d : PyData) (ds : List PyData), x = V.ref a ∧ xs = [y] ∧ Dp K H (V.ref a) (.list ds) ∧ Dp K H y d ∧ SeqAt.shaped (.list ds) = true ∧ SeqAt.shaped d = true ∧ Q (.int ((ds.countP fun z => PyData.eqv z d : Nat) : Int)) H
theorem mt_countD {X : Cx} (hu : X.A.units + 65 < cLine) : MtR X "list.count" (rCountD X.K) := by
  rintro pn st sl B l args lu au K J rl ra ⟨a, y, d, ds, el, ea, dl, dy, sh1, sh2, w⟩
  subst el ea
  obtain ⟨yu, eau, ry⟩ : ∃ z, au = [z] ∧ RelV y z := by
    rcases ra with _ | ⟨r1, _ | _⟩
    exact ⟨_, rfl, r1⟩
  have elu : lu = Value.ref a := rl
  rw [eau, elu]
  obtain ⟨_, of_y⟩ := Dp.reads J d y yu dy ry
  cases dl with
  | lst stood each =>
    obtain ⟨items, ri, stands, _⟩ := J.list stood
    obtain ⟨_, of_l⟩ := Dp.readsAll J ds _ items each ri
    refine SeqAt.count_list_data (vs := items.toArray) stands.isList of_l of_y (PyData.plainAll_of_canLay0 ds (SeqAt.canLay_of_shaped sh1)) (PyData.plain_of_canLay0 d (SeqAt.canLay_of_shaped sh2)) (room_in_shaped sh2 hu) ?_
    exact ⟨.int _, B, J.tok _, ⟨_, rfl⟩, w⟩
end DL
namespace DL
open PySem L2
section
variable {α : Type} {iα : Dat α} {c : Cfg} {ρ : Rho} {ta tb : TE} {x : α} {xs : List α}
theorem lst_dp {B H : Hp} {v : V} (r : DR c B v (Dat.d xs)) (e : Ex B H) : Dp c.K H v (.list (D.datas (xs.map Dat.d))) := by
  have q := (r.mono e).dp (Dat.pl xs)
  rw [show (Dat.d xs : D).data = .list (D.datas (xs.map Dat.d)) from D.data.eq_4 _] at q
  exact q
theorem lst_shaped (h : Dat.lv α ≤ 59) : SeqAt.shaped (.list (D.datas (xs.map Dat.d))) = true := by
  have e := eqok_shaped (eqok_dat xs (by show Dat.lv α + 1 ≤ 60; omega))
  rw [show (Dat.d xs : D).data = .list (D.datas (xs.map Dat.d)) from D.data.eq_4 _] at e
  exact e
def countT {α : Type} [Dat α] (x : α) (xs : List α) : Nat := xs.countP fun y => eqT y x
theorem tx_count (ha : TX c ta ρ xs) (hb : TX c tb ρ x) (h : Dat.lv α ≤ 59) : TX c (tBM c.K "list" (rCountD c.K) ta (tCons tb tNil)) ρ ((countT x xs : Nat) : Int) := fun G B H σ E Q k => EX.at0 ha E fun v B1 H1 T1 r1 E1 => by
  obtain ⟨a, us, e0, hl, hs⟩ := DR.lst_inv r1
  subst e0
  refine ⟨.inl ⟨rfl, _, .of (E1.bh _ _ hl)⟩, EX.at0 hb E1 fun u B2 H2 T2 r2 E2 => ?_⟩
  refine ⟨a, u, (Dat.d x).data, D.datas (xs.map Dat.d), rfl, rfl, lst_dp (r1.mono T2.hB) T2.bh, (r2.mono T2.bh).dp (Dat.pl x), lst_shaped h, eqok_shaped (eqok_dat x (by omega)), ?_⟩
  have e : ((D.datas (xs.map Dat.d)).countP fun z => PyData.eqv z (Dat.d x).data) = countT x xs := by
    rw [datas_map, List.countP_map]
    rfl
  rw [e]
  exact k _ H2 (.imm (T1.trans T2) (.int _))
end
end DL

/-! DBaseD: comprehensions over zip, list.index of ints, max of ints. -/
namespace DL
open PySem L2
/-- what a comprehension's test and item leave, P being what is known behind the item -/
abbrev lcBody (tt : TT) (te : TE) (vs : List Nat) (σ : L2.St) (D : Addr) (P : Hp → Prop) (τ : L2.St) (H : Hp) : Prop :=
  L2.wipe τ vs = L2.wipe σ vs ∧ tt τ H fun z H3 => if z = true then te τ H3 fun y H4 => ∃ got, H4 D = some (.lst got) ∧ got.length < sizeLine ∧ P (upd H4 D (.lst (got ++ [y]))) else P H3
theorem lc_zipL {K : PySem.W.Frag} {a b : Addr} {xs ys : List V} {g : TG} {tt : TT} {te : TE} {vs : List Nat} {σ : L2.St} {H1 : Hp} {D : Addr} {Qd : Hp → Prop} (hlen : xs.length = ys.length) (Pv : Nat → Hp → Prop) (h0 : Pv 0 (upd H1 D (.lst []))) (hl : ∀ i H, Pv i H → SqL K H a xs ∧ SqL K H b ys)
    (hs : ∀ (i : Nat) (x y : V) (T : Addr) (H : Hp), xs[i]? = some x → ys[i]? = some y → Pv i H → H T = none → g (.ref T) (L2.wipe σ vs) (upd H T (.tup [x, y])) (lcBody tt te vs σ D (Pv (i + 1)))) (hd : ∀ H, Pv xs.length H → Qd H) :
    ∃ W : Nat → Nat → Hp → Prop, (∃ n, W 0 n (upd H1 D (.lst []))) ∧ ∀ i n H, W i n H →
      ((Itz K a b).stop i H ∧ Qd H) ∨ ((Itz K a b).go i H ∧ ∃ N : Hp → Prop, (∀ J, N J → ∃ l, l < n ∧ W (i + 1) l J) ∧ ∀ x J, (Itz K a b).yld i H x J → g x (L2.wipe σ vs) J (lcBody tt te vs σ D N)) := by
  obtain ⟨W, w0, w⟩ := RZ.for_zipL (K := K) (a := a) (b := b) (g := fun v _ H k => g v (L2.wipe σ vs) H k) (tb := fun E τ H => lcBody tt te vs σ D (E.nx σ) τ H) (D := { nx := fun _ H => Qd H, rt := fun _ _ => False }) (σ := σ) hlen (fun i _ H => Pv i H) h0
    (fun i _ H p => hl i H p) (fun i x y T _ H z1 z2 p n => hs i x y T H z1 z2 p n) fun _ H p => hd H p
  refine ⟨fun i n H => W i n σ H, w0, fun i n H z => (w i n σ H z).imp id ?_⟩
  rintro ⟨go, N, n1, n2⟩
  exact ⟨go, N σ, fun J p => n1 σ J p, n2⟩
section
variable {α β γ : Type} {iα : Dat α} {iβ : Dat β} {iγ : Dat γ} {c : Cfg} {ρ : Rho} {ta tb te : TE} {n : Nat} {vs : List Nat}
theorem LcB.step {B1 H1 B' H B2 H2 : Hp} {L : Addr} {out : List D} (W : LcB c B1 H1 L n out B' H) (T : Step B' H B2 H2) : LcB c B1 H1 L n out B2 H2 := by
  obtain ⟨S, vs, T0, f, hS, hB, hH, o⟩ := W
  exact ⟨S, vs, T0.trans T, f, hS, T.off hB ⟨_, hH⟩, T.hH _ _ hH, o.frame T.hB (fun a z => T.off (o.thereE a z).1 (o.thereE a z).2) fun a u _ q => T.hH _ _ q⟩
theorem nx_lcZm {k l : Nat} (xs : List α) (ys : List β) (f : α → β → γ) (hx : TX c ta ρ xs) (hy : TX c tb ρ ys) (hl : xs.length = ys.length)
    (he : ∀ x y, x ∈ xs → y ∈ ys → NX c te (((wipeR ρ vs).set k (some (0, Dat.d x))).set l (some (0, Dat.d y))) n (f x y)) (hz : xs.length < 100000) (hw : ∀ w ∈ [k, l], w ∈ vs) :
    NX c (tLc (iZip c.K (tCons ta (tCons tb tNil))) (gTup c.K 2 (gCons (gName k) (gCons (gName l) gNil))) tYes te vs) ρ (n + 1) (List.zipWith f xs ys) := fun G B H σ E Q kq => by
  unfold tLc iZip
  refine EA.at0 (ea_cons hx (ea_cons hy ea_nil)) E fun us B1 H1 T1 r E1 => ?_
  cases r with
  | cons r1 r =>
    cases r with
    | cons r2 r =>
      cases r
      obtain ⟨a1, us1, rfl, ha1, hus1⟩ := DR.lst_inv r1
      obtain ⟨a2, us2, rfl, ha2, hus2⟩ := DR.lst_inv r2
      have l1 : us1.length = xs.length := by rw [hus1.length, List.length_map]
      have l2 : us2.length = ys.length := by rw [hus2.length, List.length_map]
      have outs : ∀ (i : Nat) x y, xs[i]? = some x → ys[i]? = some y → (List.zipWith f (xs.take (i + 1)) (ys.take (i + 1))).map Dat.d = (List.zipWith f (xs.take i) (ys.take i)).map Dat.d ++ [Dat.d (f x y)] := fun i x y h1 h2 => by
        have q1 := (List.getElem?_eq_some_iff.mp h1).1
        have q2 := (List.getElem?_eq_some_iff.mp h2).1
        rw [take_at h1, take_at h2, List.zipWith_append (by rw [List.length_take, List.length_take]; omega), List.map_append]
        rfl
      refine ⟨a1, a2, us1, us2, rfl, .of (E1.bh _ _ ha1), .of (E1.bh _ _ ha2), fun L hL => lc_zipL (xs := us1) (ys := us2) (by rw [l1, l2, hl]) (fun i H' => LcW c B1 H1 L n ((List.zipWith f (xs.take i) (ys.take i)).map Dat.d) H') ?_ (fun i H' W => ?_) (fun i x y T H' hux huy W hT => ?_) fun H' W => ?_⟩
      · exact LcW.start E1.bh hL
      · obtain ⟨B', S, vs', T, _⟩ := W
        exact ⟨.of (T.hH _ _ (E1.bh _ _ ha1)), .of (T.hH _ _ (E1.bh _ _ ha2))⟩
      · obtain ⟨d1, hd1, hr1⟩ := hus1.getV hux
        rw [List.getElem?_map] at hd1
        obtain ⟨u, hu, rfl⟩ := Option.map_eq_some_iff.mp hd1
        obtain ⟨d2, hd2, hr2⟩ := hus2.getV huy
        rw [List.getElem?_map] at hd2
        obtain ⟨w, hw', rfl⟩ := Option.map_eq_some_iff.mp hd2
        obtain ⟨B', W'⟩ := W
        have T2 : Step B1 H1 B' H' := let ⟨_, _, T, _⟩ := W'; T
        obtain ⟨B2, T3, r3⟩ := newPair (E1.step T2) hT (hr1.mono T2.hB) (hr2.mono T2.hB)
        have W2 := LcB.step W' T3
        refine gt_two (i := k) (j := l) G B2 _ _ _ _ _ (((E1.step T2).step T3).wipe vs) r3 fun σ2 E2 l2' k2 => ⟨?_, ?_⟩
        · exact wipe_eq (l2'.trans (wipe_length ..)) fun m hm => (k2 m fun z => hm (hw m z)).trans (wipe_out hm)
        · rw [outs i u w hu hw']
          have hlen : ((List.zipWith f (xs.take i) (ys.take i)).map Dat.d).length < 100000 := by
            rw [List.length_map, List.length_zipWith, List.length_take]
            omega
          exact LcW.turn hL W2 hlen E2 et_yes (fun _ => he u w (List.mem_of_getElem? hu) (List.mem_of_getElem? hw')) fun _ z => by rw [if_pos rfl] at z; exact z
      · rw [l1, List.take_length, hl, List.take_length] at W
        exact kq _ _ (.trans T1 (W.done hL))
/-- the first place of i -/
def placeI (xs : List Int) (i : Int) : Nat := xs.findIdx fun x => decide (x = i)
theorem placeI_lt {xs : List Int} {i : Int} (h : i ∈ xs) : placeI xs i < xs.length := List.findIdx_lt_length_of_exists ⟨i, h, decide_eq_true rfl⟩
theorem placeI_get {xs : List Int} {i : Int} (h : i ∈ xs) : xs[placeI xs i]? = some i := by
  rw [List.getElem?_eq_getElem (placeI_lt h)]
  exact congrArg some (of_decide_eq_true (List.findIdx_getElem (w := placeI_lt h)))
theorem tx_index {xs : List Int} {i : Int} (ha : TX c ta ρ xs) (hb : TX c tb ρ i) (h : i ∈ xs) : TX c (tBM c.K "list" (rIndex c.K) ta (tCons tb tNil)) ρ ((placeI xs i : Nat) : Int) := fun G B H σ E Q k => EX.at0 ha E fun v B1 H1 T1 r1 E1 => by
  obtain ⟨a, us, e0, hl, hs⟩ := DR.lst_inv r1
  subst e0
  have hus : us = xs.map V.int := DRs.ints (ns := xs) hs
  refine ⟨.inl ⟨rfl, _, .of (E1.bh _ _ hl)⟩, EX.at0 hb E1 fun u B2 H2 T2 r2 E2 => ?_⟩
  obtain rfl := DR.int_inv r2
  refine ⟨a, us, _, placeI xs i, .int i, rfl, rfl, .of (T2.hH _ _ (E1.bh _ _ hl)), rfl, ?_, ?_, ?_, ?_, k _ H2 (.imm (T1.trans T2) (.int _))⟩
  · rw [hus, List.all_map]
    exact List.all_eq_true.mpr fun _ _ => rfl
  · rw [hus, List.getElem?_map, placeI_get h]
    rfl
  · show (i == i) = true
    exact beq_self_eq_true i
  · intro m z hm hz
    rw [hus, List.getElem?_map] at hz
    obtain ⟨y, hy, rfl⟩ := Option.map_eq_some_iff.mp hz
    have hmy := List.not_of_lt_findIdx hm
    have hml := (List.getElem?_eq_some_iff.mp hy)
    have hne : y ≠ i := fun e => (of_decide_eq_false hmy) (hml.2.trans e)
    show (y == i) = false
    exact beq_eq_false_iff_ne.mpr hne
def maxI (xs : List Int) : Int := xs.foldl max (xs.getD 0 0)
theorem foldl_max_le : ∀ (xs : List Int) (a : Int), a ≤ xs.foldl max a ∧ (∀ y ∈ xs, y ≤ xs.foldl max a) ∧ (xs.foldl max a = a ∨ xs.foldl max a ∈ xs)
  | [], a => ⟨Int.le_refl a, (fun _ h => by cases h), .inl rfl⟩
  | x :: xs, a => by
    obtain ⟨h1, h2, h3⟩ := foldl_max_le xs (max a x)
    have e : (x :: xs).foldl max a = xs.foldl max (max a x) := rfl
    rw [e]
    refine ⟨by omega, fun y hy => ?_, ?_⟩
    · rcases List.mem_cons.mp hy with rfl | hy
      · omega
      · exact h2 y hy
    · rcases h3 with h3 | h3
      · by_cases q : a ≤ x
        · right
          rw [h3, Int.max_eq_right q]
          exact List.mem_cons_self
        · left
          rw [h3, Int.max_eq_left (by omega)]
      · exact .inr (List.mem_cons_of_mem _ h3)
theorem maxI_ge {xs : List Int} : ∀ y ∈ xs, y ≤ maxI xs := (foldl_max_le xs _).2.1
theorem maxI_mem {xs : List Int} (h : 0 < xs.length) : maxI xs ∈ xs := by
  rcases (foldl_max_le xs (xs.getD 0 0)).2.2 with q | q
  · unfold maxI
    rw [q]
    cases xs with
    | nil => cases h
    | cons x xs => exact List.mem_cons_self
  · exact q
theorem tx_maxL {xs : List Int} (ha : TX c ta ρ xs) (h : 0 < xs.length) : TX c (tCB (rMax c.K) (tCons ta tNil)) ρ (maxI xs) := fun G B H σ E Q k => EX.at0 ha E fun v B1 H1 T1 r1 E1 => by
  obtain ⟨a, us, e0, hl, hs⟩ := DR.lst_inv r1
  subst e0
  have hus : us = xs.map V.int := DRs.ints (ns := xs) hs
  subst hus
  refine ⟨a, xs, rfl, .of (E1.bh _ _ hl), h, fun m hm hx => ?_⟩
  have e : m = maxI xs := by
    have h1 := maxI_ge m hm
    have h2 := hx _ (maxI_mem h)
    omega
  rw [e]
  exact k _ H1 (.imm T1 (.int _))
end
end DL
namespace DL
open PySem L2
/-! ### a list within the frame's own list of lists is lengthened -/
section
variable {c : Cfg} {ρ : Rho} {te ti : TE} {P : Posts} {ds es : List D} {d : D} {i : Int}
theorem OwnL.setAt {R R' : (Addr → Prop) → V → D → Prop} {a2 : Addr} {x : V} {d d' : D} (hne : ∀ S1 v d, (∀ a, S1 a → a ≠ a2) → R S1 v d → R' S1 v d) (hj : ∀ S1, R S1 x d → R' S1 x d') (hm : ∀ S1, R S1 x d → S1 a2) :
    ∀ {S : Addr → Prop} {vs : List V} {ds : List D} {j : Nat}, OwnL R S vs ds → ds[j]? = some d → vs[j]? = some x → OwnL R' S vs (ds.set j d')
  | _, [], [], _, _, e, _ => by simp at e
  | S, v :: vs, b :: ds, 0, ⟨S1, S2, h1, h2, h3, h4⟩, e1, e2 => by
    simp at e1 e2
    subst e1
    subst e2
    exact ⟨S1, S2, hj _ h1, OwnL.imp (fun S3 v d z w => hne S3 v d (fun a y e => h3 a2 (hm _ h1) (by rw [← e]; exact z a y)) w) h2, h3, h4⟩
  | S, v :: vs, b :: ds, j + 1, ⟨S1, S2, h1, h2, h3, h4⟩, e1, e2 => by
    have e1' : ds[j]? = some d := by simpa using e1
    have e2' : vs[j]? = some x := by simpa using e2
    obtain ⟨x', S3, g1, g2, g3⟩ := OwnL.get h2 e1'
    rw [e2'] at g1
    cases g1
    have q : S2 a2 := g3 a2 (hm _ g2)
    refine ⟨S1, S2, hne S1 v b (fun a y e => h3 a y (by rw [e]; exact q)) h1, OwnL.setAt hne hj hm h2 e1' e2', h3, h4⟩
  | _, [], _ :: _, _, h, _, _ => h.elim
  | _, _ :: _, [], _, h, _, _ => h.elim
theorem run_appIn2 {l : Nat} {j : Nat} (hl : ρ[l]? = some (some (2, .lst ds))) (hi : EX c ti ρ 0 (.int i)) (hij : i = (j : Int)) (hj : ds[j]? = some (.lst es)) (h : EX c te ρ 0 d) (hz : es.length < 100000) (k : P.nx (ρ.set l (some (2, .lst (ds.set j (.lst (es ++ [d]))))))) :
    Run c (tDrop (tBM c.K "list" rAppend (tOp (rIxL c.K) (tVar l) ti) (tCons te tNil))) ρ P := fun B0 G B H σ E e b m => by
  subst hij
  obtain ⟨Ss0, _, _, h30⟩ := id e.own
  obtain ⟨v, hv, a, vs, S1, rfl, hH, hB, hO, hn, hS1⟩ := h30 l _ _ hl
  refine ⟨_, hv, hi.int e fun B1 H1 T1 e1 => ?_⟩
  have hlen : vs.length = ds.length := OwnL.length hO
  obtain ⟨x, S2, hx, hw, hsub⟩ := OwnL.get hO hj
  obtain ⟨a2, ws, S3, rfl, hH2, hB2, hO2, hn2, hS2⟩ := hw
  refine ⟨a, vs, (j : Int), _, rfl, rfl, .of (T1.hH _ _ hH), atI_nat hx, .inl ⟨rfl, _, .of (T1.hH _ _ hH2)⟩, h.at0 e1 fun y B2 H2 T2 r2 e2 => ?_⟩
  refine ⟨a2, ws, y, rfl, rfl, T2.hH _ _ (T1.hH _ _ hH2), szl _ (by rw [OwnL.length hO2]; exact hz), ?_⟩
  have T := T1.trans T2
  refine m.nx B2 _ σ _ k ?_ (b.step e.gh T)
  -- the environment, the inner list lengthened
  obtain ⟨Ss, h1, h2, h3⟩ := e2.own
  obtain ⟨v', hv', a', vs', S1', e0, hH', hB', hO', hn', hS1'⟩ := h3 l _ _ hl
  rw [hv] at hv'
  cases hv'
  cases e0
  rw [T.hH _ _ hH] at hH'
  cases hH'
  obtain ⟨x', S2', hx2, hw', hsub'⟩ := OwnL.get hO' hj
  rw [hx] at hx2
  cases hx2
  have mem : ∀ S4 : Addr → Prop, Own c B2 H2 1 S4 (.ref a2) (.lst es) → S4 a2 := fun S4 q => by
    obtain ⟨a3, _, _, e3, _, _, _, _, q5⟩ := q
    cases e3
    exact (q5 _).mpr (.inl rfl)
  have m1 : S1' a2 := hsub' _ (mem _ hw')
  have ml : Ss l a2 := (hS1' _).mpr (.inr m1)
  have hBa2 : B2 a2 = none := (hO'.thereE a2 m1).1
  have naa : a ≠ a2 := fun q => hn' (by rw [q]; exact m1)
  refine ⟨Ex.mut e2.bh hBa2, Ex.mut e2.gh (h2 l a2 ml), by rw [List.length_set, e2.len], Ss, h1, h2, fun p m' d' q => ?_⟩
  by_cases hp : p = l
  · subst hp
    rw [List.getElem?_set_self (List.getElem?_eq_some_iff.mp hl).1] at q
    cases q
    refine ⟨_, hv, a, vs, S1', rfl, by rw [upd_ne naa]; exact T.hH _ _ hH, hB', ?_, hn', hS1'⟩
    refine OwnL.setAt (R := Own c B2 H2 1) (a2 := a2) (x := .ref a2) (d := .lst es) (fun S4 v d z w => ?_) (fun S4 w => ?_) mem hO' hj hx
    · exact w.frame (Ex.refl _) (fun a z => (w.there a z).1) fun a o z' q => by rw [upd_ne (z a z')]; exact q
    · obtain ⟨a3, ws3, S5, e3, g1, g2, g3, g4, g5⟩ := w
      cases e3
      rw [T2.hH _ _ (T1.hH _ _ hH2)] at g1
      cases g1
      refine ⟨a2, _, fun a => S5 a ∨ False, rfl, upd_same, g2, ?_, fun z => z.elim g4 id, fun p => ?_⟩
      · refine OwnL.append (fun S S' v d e h => h.congr e) ?_ (OwnL.one ⟨fun _ z => z, r2⟩) fun _ _ z => z
        exact g3.frame (Ex.refl _) (fun a z => (g3.thereE a z).1) fun a o z' q => by rw [upd_ne (fun e => g4 (by rw [← e]; exact z'))]; exact q
      · rw [g5 p]
        show p = a2 ∨ S5 p ↔ p = a2 ∨ (S5 p ∨ False)
        rw [or_false]
  · rw [List.getElem?_set_ne (Ne.symm hp)] at q
    obtain ⟨u, hu, hw2⟩ := h3 p m' d' q
    refine ⟨u, hu, hw2.frame (Ex.refl _) (fun a z => (hw2.there a z).1) fun a o' z w => ?_⟩
    rw [upd_ne (fun e => hp (h1 p l a z (by rw [e]; exact ml)))]
    exact w
end
end DL

/-! DBaseE: slices; powers; a list's item put anew. -/
namespace DL
open PySem L2
section
variable {α : Type} {iα : Dat α} {c : Cfg} {ρ : Rho} {ta te ti : TE} {xs : List α} {n : Nat} {P : Posts}
theorem newLst0 {B H : Hp} {p : Addr} {vs : List V} {ds : List D} (e : Ex B H) (h : DRs c B vs ds) (hp : H p = none) : Res c B H (upd H p (.lst vs)) 1 (.ref p) (.lst ds) := newLst (ResL.of (.refl e) h) hp
/-- xs[:k] -/
theorem nx_upTo {k : Nat} (ha : TX c ta ρ xs) : NX c (tSl (rSlL c.K) ta tNoPart (tPart (tC (.int (k : Int))))) ρ 1 (xs.take k) := fun G B H σ E Q kq => EX.at0 ha E fun v B1 H1 T1 r1 E1 => by
  obtain ⟨a, us, e0, hl, hs⟩ := DR.lst_inv r1
  subst e0
  refine ⟨(k : Int), rfl, a, us, rfl, .of (E1.bh _ _ hl), fun p hp => ?_⟩
  have e : cutV us none (some (k : Int)) = us.take k := by
    unfold cutV
    rw [HT.sIx_none, HT.sIx_nat, List.drop_zero, Nat.sub_zero]
    exact List.take_eq_take_iff.mpr (by omega)
  rw [e]
  have h2 := DRs.take k hs
  rw [← List.map_take] at h2
  exact kq _ _ (.trans T1 (newLst0 E1.bh h2 hp))
/-- xs[k:] -/
theorem nx_from {k : Nat} (ha : TX c ta ρ xs) : NX c (tSl (rSlL c.K) ta (tPart (tC (.int (k : Int)))) tNoPart) ρ 1 (xs.drop k) := fun G B H σ E Q kq => EX.at0 ha E fun v B1 H1 T1 r1 E1 => by
  obtain ⟨a, us, e0, hl, hs⟩ := DR.lst_inv r1
  subst e0
  refine ⟨(k : Int), rfl, a, us, rfl, .of (E1.bh _ _ hl), fun p hp => ?_⟩
  have e : cutV us (some (k : Int)) none = us.drop k := by
    unfold cutV
    rw [HT.sIx_none, HT.sIx_nat]
    by_cases q : k ≤ us.length
    · rw [Nat.min_eq_left q, List.take_of_length_le (by rw [List.length_drop]; exact Nat.le_refl _)]
    · rw [Nat.min_eq_right (by omega), List.drop_of_length_le (Nat.le_refl _), List.drop_of_length_le (by omega), List.take_nil]
  rw [e]
  have h2 := DRs.drop k hs
  rw [← List.map_drop] at h2
  exact kq _ _ (.trans T1 (newLst0 E1.bh h2 hp))
theorem OwnL.of0 {B H : Hp} {S : Addr → Prop} {vs : List V} {ds : List D} (h : OwnL (Own c B H 0) S vs ds) : DRs c B vs ds := OwnL.drs (fun _ _ _ _ z => z.2) h
/-- xs[i] = e, xs the frame's own, its items settled -/
theorem run_setIx {ds : List D} {d : D} {l k : Nat} {i : Int} (hl : ρ[l]? = some (some (1, .lst ds))) (h : EX c te ρ 0 d) (hi : EX c ti ρ 0 (.int i)) (hk : ixN ds.length i = some k) (q : P.nx (ρ.set l (some (1, .lst (ds.set k d))))) :
    Run c (tAsg te (gSub (tVar l) ti rSetL)) ρ P := fun B0 G B H σ E e b m => h.at0 e fun y B1 H1 T1 r1 e1 => by
  obtain ⟨Ss, _, _, h3⟩ := id e1.own
  obtain ⟨v, hv, a, vs, S1, rfl, hH, hB, hO, hn, hS1⟩ := h3 l _ _ hl
  refine ⟨_, hv, hi.int e1 fun B2 H2 T2 e2 => ?_⟩
  have hlen : vs.length = ds.length := OwnL.length hO
  refine ⟨a, vs, i, k, rfl, rfl, T2.hH _ _ hH, by rw [hlen]; exact hk, ?_⟩
  refine m.nx B2 _ σ _ q (e1.mut T2 hl hv fun vs2 S2 hH2 hO2 hn2 hF => ?_) (b.step e.gh (T1.trans T2))
  rw [hH] at hH2
  cases hH2
  exact ⟨fun _ => False, OwnL.of_drs (DRs.set (r1.mono T2.hB) k (OwnL.of0 hF)), fun z => z, fun _ z => z.elim⟩
theorem ix_neg1 {n : Nat} (h : 0 < n) : ixN n (-1) = some (n - 1) := by
  unfold ixN
  rw [if_neg (by decide), if_pos (by omega)]
  congr 1
  omega
theorem ix_nat {n k : Nat} (h : k < n) : ixN n (k : Int) = some k := by
  unfold ixN
  rw [if_pos (by omega), if_pos (by omega), Int.toNat_natCast]
end
end DL

/-! DBaseF: defs that change lists of the caller in place. -/
namespace DL
open PySem L2
/-- as Run, for a piece that only goes on; the slots in K hold what they held -/
def RunK (c : Cfg) (K : List Nat) (t : TS) (ρ : Rho) (P : Rho → Prop) : Prop := ∀ B0 G B H σ (E : Ends), Env c G B H σ ρ → Base B0 G B →
  (∀ B' H' σ' ρ', P ρ' → Env c G B' H' σ' ρ' → Base B0 G B' → (∀ k ∈ K, σ'[k]? = σ[k]?) → E.nx σ' H') → t E σ H
section
variable {c : Cfg} {K : List Nat} {t u : TS} {ρ : Rho} {P P2 : Rho → Prop} {te to ti : TE} {tt : TT} {n : Nat} {d : D}
theorem runK_seq (h : RunK c K t ρ P2) (h2 : ∀ ρ', P2 ρ' → RunK c K u ρ' P) : RunK c K (tSeq t u) ρ P := fun B0 G B H σ E e b m => by
  refine h B0 G B H σ _ e b fun B' H' σ' ρ' p e' b' k' => ?_
  exact h2 ρ' p B0 G B' H' σ' E e' b' fun B2 H2 σ2 ρ2 p2 e2 b2 k2 => m B2 H2 σ2 ρ2 p2 e2 b2 fun k hk => (k2 k hk).trans (k' k hk)
theorem runK_next (p : P ρ) : RunK c K tNext ρ P := fun B0 G B H σ E e b m => m B H σ ρ p e b fun _ _ => rfl
theorem runK_mono (h : RunK c K t ρ P2) (h2 : ∀ ρ', P2 ρ' → P ρ') : RunK c K t ρ P := fun B0 G B H σ E e b m => h B0 G B H σ E e b fun B' H' σ' ρ' p => m B' H' σ' ρ' (h2 ρ' p)
theorem runK_if {b : Bool} (h : ET c tt (cur ρ) b) (h1 : b = true → RunK c K t ρ P) (h2 : b = false → RunK c K u ρ P) : RunK c K (tIfS tt t u) ρ P := fun B0 G B H σ E e bb m =>
  h.ofCur G B H σ e _ fun H' x => by
    cases b with
    | true =>
      show t E σ H'
      exact h1 rfl B0 G B H' σ E (e.grow x) bb m
    | false =>
      show u E σ H'
      exact h2 rfl B0 G B H' σ E (e.grow x) bb m
theorem runK_set {i : Nat} (h : EX c te ρ n d) (hi : i ∉ K) (p : P (ρ.set i (some (n, d)))) : RunK c K (tAsg te (gName i)) ρ P := fun B0 G B H σ E e b m =>
  h G B H σ e _ fun v H' R => by
    obtain ⟨B', e', T⟩ := e.bind i R
    exact m B' H' _ _ p e' (b.step e.gh T) fun k hk => List.getElem?_set_ne fun q => hi (by rw [q]; exact hk)
/-- posts of a piece that only goes on -/
def goOn (P : Rho → Prop) : Posts := { nx := P, rt := fun _ _ => False, bk := fun _ => False, ct := fun _ => False }
theorem runK_drop (h : Run c (tDrop te) ρ (goOn P)) : RunK c K (tDrop te) ρ P := fun B0 G B H σ E e b m => by
  have q := h B0 G B H σ { E with nx := fun σ' H' => σ' = σ → E.nx σ H' } e b ⟨fun B' H' σ' ρ' p e' b' w => by subst w; exact m B' H' σ' ρ' p e' b' fun _ _ => rfl, fun _ _ _ _ z => z.elim, fun _ _ _ _ z => z.elim, fun _ _ _ _ z => z.elim⟩
  have q' : te σ H fun _ H' => (σ = σ → E.nx σ H') := q
  have e2 : (fun (_ : V) (H' : Hp) => (σ = σ → E.nx σ H')) = fun _ H' => E.nx σ H' := by
    funext _ H'
    exact propext ⟨fun z => z rfl, fun z _ => z⟩
  rw [e2] at q'
  exact q'
theorem runK_sub {ts : TSet} (h : Run c (tAsg te (gSub to ti ts)) ρ (goOn P)) : RunK c K (tAsg te (gSub to ti ts)) ρ P := fun B0 G B H σ E e b m => by
  have q := h B0 G B H σ { E with nx := fun σ' H' => σ' = σ → E.nx σ H' } e b ⟨fun B' H' σ' ρ' p e' b' w => by subst w; exact m B' H' σ' ρ' p e' b' fun _ _ => rfl, fun _ _ _ _ z => z.elim, fun _ _ _ _ z => z.elim, fun _ _ _ _ z => z.elim⟩
  have q' : te σ H fun v H1 => to σ H1 fun o H2 => ti σ H2 fun i H3 => ts o i v H3 fun H4 => (σ = σ → E.nx σ H4) := q
  have e2 : (fun (H4 : Hp) => (σ = σ → E.nx σ H4)) = fun H4 => E.nx σ H4 := by
    funext H'
    exact propext ⟨fun z => z rfl, fun z _ => z⟩
  rw [e2] at q'
  exact q'
end
/-- H without the addresses in S -/
noncomputable def cut (H : Hp) (S : Addr → Prop) : Hp := fun a => by
  classical
  exact if S a then none else H a
theorem cut_in {H : Hp} {S : Addr → Prop} {a : Addr} (h : S a) : cut H S a = none := by
  unfold cut
  exact if_pos h
theorem cut_out {H : Hp} {S : Addr → Prop} {a : Addr} (h : ¬ S a) : cut H S a = H a := by
  unfold cut
  exact if_neg h
theorem cut_ex {H : Hp} {S : Addr → Prop} : Ex (cut H S) H := fun a o q => by
  by_cases w : S a
  · rw [cut_in w] at q; cases q
  · rw [cut_out w] at q; exact q
theorem cut_none {H : Hp} {S : Addr → Prop} {a : Addr} (h : cut H S a = none) : S a ∨ H a = none := by
  by_cases w : S a
  · exact .inl w
  · rw [cut_out w] at h; exact .inr h
/-- two lists of the caller are changed in place -/
def spMv2 {ι : Type} (c : Cfg) (n1 n2 : Nat) (d1 d2 : ι → D) (args : ι → List D) (pre : ι → Prop) (rel : ι → D → D → Prop) : Sp := fun vs H Q _ => ∃ (v1 v2 : V) (us : List V) (z : ι) (B : Hp) (S1 S2 : Addr → Prop), pre z ∧ vs = v1 :: v2 :: us ∧ Ex B H ∧ Own c B H n1 S1 v1 (d1 z) ∧ Own c B H n2 S2 v2 (d2 z) ∧ (∀ a, S1 a → ¬ S2 a) ∧ DRs c B us (args z) ∧
  ∀ B' H' e1 e2 T1 T2, rel z e1 e2 → Own c B' H' n1 T1 v1 e1 → Own c B' H' n2 T2 v2 e2 → (∀ a, T1 a → ¬ T2 a) → (∀ a, T1 a ∨ T2 a → (S1 a ∨ S2 a) ∨ H a = none) → Step B (cut H fun a => S1 a ∨ S2 a) B' H' → Q .non H'
section
variable {ι : Type} {c : Cfg} {n1 n2 : Nat} {d1 d2 : ι → D} {args : ι → List D} {pre : ι → Prop} {rel : ι → D → D → Prop} {ρ : Rho} {E : XK} {t : TS} {P : Posts} {ta : TA}
theorem run_mv2 {i j : Nat} (z : ι) (hij : i ≠ j) (hi : ρ[i]? = some (some (n1, d1 z))) (hj : ρ[j]? = some (some (n2, d2 z))) (ha : EA c ta ρ 0 (args z)) (hp : pre z) (q : ∀ e1 e2, rel z e1 e2 → P.nx ((ρ.set i (some (n1, e1))).set j (some (n2, e2)))) :
    Run c (tDrop (tCall (spMv2 c n1 n2 d1 d2 args pre rel) [] E (tCons (tVar i) (tCons (tVar j) ta)))) ρ P := fun B0 G B H σ Z e b m => by
  obtain ⟨Ss0, _, _, h30⟩ := id e.own
  obtain ⟨v1, hv1, _⟩ := h30 i _ _ hi
  obtain ⟨v2, hv2, _⟩ := h30 j _ _ hj
  refine ⟨v1, hv1, v2, hv2, EA.at0 ha e fun us B1 H1 T r e1 => ?_⟩
  obtain ⟨Ss, h1, h2, h3⟩ := id e1.own
  obtain ⟨v1', hv1', o1⟩ := h3 i _ _ hi
  obtain ⟨v2', hv2', o2⟩ := h3 j _ _ hj
  rw [hv1] at hv1'
  cases hv1'
  rw [hv2] at hv2'
  cases hv2'
  refine ⟨v1, v2, us, z, B1, Ss i, Ss j, hp, by rw [List.append_nil], e1.bh, o1, o2, fun a x y => hij (h1 i j a x y), r, fun B' H' f1 f2 T1 T2 hr w1 w2 w3 w4 S => ?_⟩
  have gout : ∀ {a o}, G a = some o → ¬ (Ss i a ∨ Ss j a) := fun {a o} q w => by
    have := w.elim (h2 i a) (h2 j a)
    rw [q] at this; cases this
  have gh' : Ex G H' := fun a o q => S.hH a o (by rw [cut_out (gout q)]; exact e1.gh a o q)
  have gnone : ∀ {a}, cut H1 (fun a => Ss i a ∨ Ss j a) a = none → G a = none := fun {a} q => by
    rcases cut_none q with w | w
    · exact w.elim (h2 i a) (h2 j a)
    · exact Ex.back e1.gh w
  have hil : i < ρ.length := (List.getElem?_eq_some_iff.mp hi).1
  have hjl : j < ρ.length := (List.getElem?_eq_some_iff.mp hj).1
  refine m.nx B' H' σ _ (q f1 f2 hr) ?_ ⟨(b.step e.gh T).1.trans S.hB, fun a o x => (S.new a o x).elim (fun y => (b.step e.gh T).2 a o y) fun y => .inr (gnone y)⟩
  have there : ∀ {k a}, (∃ p, ρ[k]? = some (some p)) → Ss k a → ∃ o, H1 a = some o := fun {k a} ⟨⟨p1, p2⟩, hp'⟩ x => by
    obtain ⟨u, _, ho⟩ := h3 k p1 p2 hp'
    exact (ho.there a x).2
  have far : ∀ {k a}, k ≠ i → k ≠ j → (∃ p, ρ[k]? = some (some p)) → Ss k a → ¬ (T1 a ∨ T2 a) := fun {k a} ki kj hk x w => by
    rcases w4 a w with (y | y) | y
    · exact ki (h1 k i a x y)
    · exact kj (h1 k j a x y)
    · obtain ⟨o, ho⟩ := there hk x
      rw [y] at ho; cases ho
  have gT : ∀ {a}, T1 a ∨ T2 a → G a = none := fun {a} w => by
    rcases w4 a w with (y | y) | y
    · exact h2 i a y
    · exact h2 j a y
    · exact Ex.back e1.gh y
  refine ⟨S.bh, gh', by rw [List.length_set, List.length_set, e1.len], fun k a => if k = i then T1 a else if k = j then T2 a else (Ss k a ∧ ∃ p, ρ[k]? = some (some p)), fun k l a x y => ?_, fun k a x => ?_, fun k n d qk => ?_⟩
  · dsimp only at x y
    by_cases ki : k = i
    · rw [if_pos ki] at x
      by_cases li : l = i
      · rw [ki, li]
      · rw [if_neg li] at y
        by_cases lj : l = j
        · rw [if_pos lj] at y; exact absurd y (w3 a x)
        · rw [if_neg lj] at y; exact absurd (Or.inl x) (far li lj y.2 y.1)
    · rw [if_neg ki] at x
      by_cases kj : k = j
      · rw [if_pos kj] at x
        by_cases li : l = i
        · rw [if_pos li] at y; exact absurd x (w3 a y)
        · rw [if_neg li] at y
          by_cases lj : l = j
          · rw [kj, lj]
          · rw [if_neg lj] at y; exact absurd (Or.inr x) (far li lj y.2 y.1)
      · rw [if_neg kj] at x
        by_cases li : l = i
        · rw [if_pos li] at y; exact absurd (Or.inl y) (far ki kj x.2 x.1)
        · rw [if_neg li] at y
          by_cases lj : l = j
          · rw [if_pos lj] at y; exact absurd (Or.inr y) (far ki kj x.2 x.1)
          · rw [if_neg lj] at y; exact h1 k l a x.1 y.1
  · dsimp only at x
    by_cases ki : k = i
    · rw [if_pos ki] at x; exact gT (.inl x)
    · rw [if_neg ki] at x
      by_cases kj : k = j
      · rw [if_pos kj] at x; exact gT (.inr x)
      · rw [if_neg kj] at x; exact h2 k a x.1
  · by_cases kj : k = j
    · subst kj
      rw [List.getElem?_set_self (by rw [List.length_set]; exact hjl)] at qk
      cases qk
      refine ⟨v2, hv2, ?_⟩
      have e2 : (fun a => if k = i then T1 a else if k = k then T2 a else (Ss k a ∧ ∃ p, ρ[k]? = some (some p))) = T2 := by
        funext a
        rw [if_neg (Ne.symm hij), if_pos rfl]
      show Own c B' H' n2 (fun a => if k = i then T1 a else if k = k then T2 a else (Ss k a ∧ ∃ p, ρ[k]? = some (some p))) v2 f2
      rw [e2]
      exact w2
    · rw [List.getElem?_set_ne (Ne.symm kj)] at qk
      by_cases ki : k = i
      · subst ki
        rw [List.getElem?_set_self hil] at qk
        cases qk
        refine ⟨v1, hv1, ?_⟩
        have e2 : (fun a => if k = k then T1 a else if k = j then T2 a else (Ss k a ∧ ∃ p, ρ[k]? = some (some p))) = T1 := by
          funext a
          rw [if_pos rfl]
        show Own c B' H' n1 (fun a => if k = k then T1 a else if k = j then T2 a else (Ss k a ∧ ∃ p, ρ[k]? = some (some p))) v1 f1
        rw [e2]
        exact w1
      · rw [List.getElem?_set_ne (Ne.symm ki)] at qk
        obtain ⟨u, hu, ho⟩ := h3 k n d qk
        refine ⟨u, hu, ?_⟩
        have e2 : (fun a => if k = i then T1 a else if k = j then T2 a else (Ss k a ∧ ∃ p, ρ[k]? = some (some p))) = Ss k := by
          funext a
          rw [if_neg ki, if_neg kj]
          exact propext ⟨fun x => x.1, fun x => ⟨x, _, qk⟩⟩
        show Own c B' H' n (fun a => if k = i then T1 a else if k = j then T2 a else (Ss k a ∧ ∃ p, ρ[k]? = some (some p))) u d
        rw [e2]
        have hout : ∀ a, Ss k a → ¬ (Ss i a ∨ Ss j a) := fun a x w => w.elim (fun y => ki (h1 k i a x y)) fun y => kj (h1 k j a x y)
        refine ho.frame S.hB (fun a x => ?_) fun a o x w => S.hH a o (by rw [cut_out (hout a x)]; exact w)
        cases y : B' a with
        | none => rfl
        | some o =>
          rcases S.new a o y with w | w
          · rw [(ho.there a x).1] at w; cases w
          · rcases cut_none w with w | w
            · exact absurd w (hout a x)
            · obtain ⟨o', ho'⟩ := (ho.there a x).2
              rw [w] at ho'; cases ho'
theorem fn_runMv2 {N : List Str} {ρ0 : ι → Rho} (hρ : ∀ z, ρ0 z = some (n1, d1 z) :: some (n2, d2 z) :: ((args z).map (fun d => some (0, d)) ++ List.replicate (N.length - 2 - (args z).length) none)) (hl : ∀ z, (args z).length + 2 ≤ N.length)
    (h : ∀ z, pre z → RunK c [0, 1] t (ρ0 z) fun ρ' => ∃ e1 e2, rel z e1 e2 ∧ ρ'[0]? = some (some (n1, e1)) ∧ ρ'[1]? = some (some (n2, e2))) (vs : List V) (H : Hp) (Q : VK) (E : XK) (hs : spMv2 c n1 n2 d1 d2 args pre rel vs H Q E) : t { nx := fun _ H' => Q .non H', rt := Q } (L2.start N vs) H := by
  obtain ⟨v1, v2, us, z, B, S1, S2, hp, rfl, eB, o1, o2, hd, hr, k⟩ := hs
  have hul : us.length = (args z).length := hr.length
  have hN := hl z
  have hst : L2.start N (v1 :: v2 :: us) = some v1 :: some v2 :: (us.map some ++ List.replicate (N.length - 2 - us.length) none) := by
    unfold L2.start
    simp
    omega
  have en : Env c (cut H fun a => S1 a ∨ S2 a) B H (L2.start N (v1 :: v2 :: us)) (ρ0 z) := by
    refine ⟨eB, cut_ex, ?_, fun j b => (j = 0 ∧ S1 b) ∨ (j = 1 ∧ S2 b), fun i j b x y => ?_, fun i b x => cut_in (x.elim (fun y => .inl y.2) fun y => .inr y.2), fun i n d q => ?_⟩
    · rw [hρ, hst]
      simp [hul]
    · rcases x with x | x <;> rcases y with y | y
      · exact x.1.trans y.1.symm
      · exact absurd y.2 (hd b x.2)
      · exact absurd x.2 (hd b y.2)
      · exact x.1.trans y.1.symm
    · rw [hρ] at q
      rw [hst]
      match i, q with
      | 0, q =>
        cases q
        refine ⟨v1, rfl, ?_⟩
        have e : (fun b => ((0 : Nat) = 0 ∧ S1 b) ∨ ((0 : Nat) = 1 ∧ S2 b)) = S1 := by
          funext b
          exact propext ⟨fun x => x.elim (·.2) fun y => absurd y.1 (by decide), fun x => .inl ⟨rfl, x⟩⟩
        show Own c B H n1 (fun b => ((0 : Nat) = 0 ∧ S1 b) ∨ ((0 : Nat) = 1 ∧ S2 b)) v1 (d1 z)
        rw [e]
        exact o1
      | 1, q =>
        cases q
        refine ⟨v2, rfl, ?_⟩
        have e : (fun b => ((1 : Nat) = 0 ∧ S1 b) ∨ ((1 : Nat) = 1 ∧ S2 b)) = S2 := by
          funext b
          exact propext ⟨fun x => x.elim (fun y => absurd y.1 (by decide)) (·.2), fun x => .inr ⟨rfl, x⟩⟩
        show Own c B H n2 (fun b => ((1 : Nat) = 0 ∧ S1 b) ∨ ((1 : Nat) = 1 ∧ S2 b)) v2 (d2 z)
        rw [e]
        exact o2
      | i + 2, q =>
        rw [List.getElem?_cons_succ, List.getElem?_cons_succ] at q
        rw [List.getElem?_cons_succ, List.getElem?_cons_succ]
        by_cases hi : i < (args z).length
        · rw [List.getElem?_append_left (by rw [List.length_map]; exact hi), List.getElem?_map] at q
          obtain ⟨d', hd', e⟩ := Option.map_eq_some_iff.mp q
          cases e
          obtain ⟨v, hv, hrv⟩ := hr.get hd'
          refine ⟨v, ?_, fun b x => by rcases x with x | x <;> omega, hrv⟩
          rw [List.getElem?_append_left (by rw [List.length_map, hul]; exact hi), List.getElem?_map, hv]
          rfl
        · rw [List.getElem?_append_right (by rw [List.length_map]; omega), List.getElem?_replicate] at q
          split at q <;> cases q
  refine h z hp B (cut H fun a => S1 a ∨ S2 a) B H _ _ en .refl fun B' H' σ' ρ' p e' b' kk => ?_
  obtain ⟨e1, e2, hrel, q1, q2⟩ := p
  obtain ⟨Ss, g1, g2, g3⟩ := e'.own
  obtain ⟨w1, hw1, p1⟩ := g3 0 _ _ q1
  obtain ⟨w2, hw2, p2⟩ := g3 1 _ _ q2
  rw [kk 0 (by simp), hst] at hw1
  rw [kk 1 (by simp), hst] at hw2
  cases hw1
  cases hw2
  refine k B' H' e1 e2 (Ss 0) (Ss 1) hrel p1 p2 (fun a x y => absurd (g1 0 1 a x y) (by decide)) (fun a x => ?_) ⟨e'.gh, b'.1, e'.bh, b'.2⟩
  exact cut_none (x.elim (g2 0 a) (g2 1 a))
theorem spMv2_len {m : Nat} (hl : ∀ z, (args z).length + 2 = m) (vs : List V) (H : Hp) (Q : VK) (E : XK) (h : spMv2 c n1 n2 d1 d2 args pre rel vs H Q E) : vs.length = m := by
  obtain ⟨v1, v2, us, z, B, S1, S2, hp, rfl, eB, o1, o2, hd, hr, k⟩ := h
  rw [List.length_cons, List.length_cons, hr.length, hl]
end
end DL

/-! DBaseG: several values of the frame's own at once. -/
namespace DL
open PySem L2
/-- as Env; U: what is new and told of nowhere yet -/
def EnvU (c : Cfg) (G B H : Hp) (σ : L2.St) (ρ : Rho) (U : Addr → Prop) : Prop := Ex B H ∧ Ex G H ∧ σ.length = ρ.length ∧ ∃ Ss : Nat → Addr → Prop, (∀ i j a, Ss i a → Ss j a → i = j) ∧ (∀ i a, Ss i a → G a = none) ∧ (∀ i a, Ss i a → ¬ U a) ∧ (∀ a, U a → G a = none) ∧ ∀ i n d, ρ[i]? = some (some (n, d)) → ∃ v, σ[i]? = some (some v) ∧ Own c B H n (Ss i) v d
section
variable {c : Cfg} {G B H B' H' : Hp} {σ : L2.St} {ρ : Rho} {U S : Addr → Prop} {n : Nat} {v : V} {d d1 d2 d3 : D} {P : Posts} {te : TE} {ta : TA}
theorem EnvU.start (e : Env c G B H σ ρ) (T : Step B H B' H') (f : ∀ a, S a → H a = none) : EnvU c G B' H' σ ρ S := by
  have e' := e.step T
  obtain ⟨Ss, h1, h2, h3⟩ := e.own
  refine ⟨e'.bh, e'.gh, e.len, fun i a => Ss i a ∧ ∃ p, ρ[i]? = some (some p), fun i j a x y => h1 i j a x.1 y.1, fun i a x => h2 i a x.1, fun i a x y => ?_, fun a x => Ex.back e.gh (f a x), fun i n d q => ?_⟩
  · obtain ⟨x1, ⟨p1, p2⟩, x2⟩ := x
    obtain ⟨u, _, ho⟩ := h3 i p1 p2 x2
    obtain ⟨o, hh⟩ := (ho.there a x1).2
    rw [f a y] at hh; cases hh
  · obtain ⟨u, hu, ho⟩ := h3 i n d q
    refine ⟨u, hu, ?_⟩
    have e2 : (fun a => Ss i a ∧ ∃ p, ρ[i]? = some (some p)) = Ss i := by
      funext a
      exact propext ⟨fun x => x.1, fun x => ⟨x, _, q⟩⟩
    show Own c B' H' n (fun a => Ss i a ∧ ∃ p, ρ[i]? = some (some p)) u d
    rw [e2]
    exact ho.frame T.hB (fun a z => T.off (ho.there a z).1 (ho.there a z).2) fun a o _ q => T.hH a o q
theorem EnvU.put {i : Nat} (E : EnvU c G B H σ ρ U) (o : Own c B H n S v d) (hS : ∀ a, S a → U a) : EnvU c G B H (σ.set i (some v)) (ρ.set i (some (n, d))) (fun a => U a ∧ ¬ S a) := by
  obtain ⟨b1, b2, b3, Ss, h1, h2, hU, hG, h3⟩ := E
  refine ⟨b1, b2, by rw [List.length_set, List.length_set, b3], fun j a => if j = i then S a else Ss j a, fun j k a x y => ?_, fun j a x => ?_, fun j a x y => ?_, fun a x => hG a x.1, fun j m e q => ?_⟩
  · dsimp only at x y
    by_cases hj : j = i
    · rw [if_pos hj] at x
      by_cases hk : k = i
      · rw [hj, hk]
      · rw [if_neg hk] at y; exact absurd (hS a x) (hU k a y)
    · rw [if_neg hj] at x
      by_cases hk : k = i
      · rw [if_pos hk] at y; exact absurd (hS a y) (hU j a x)
      · rw [if_neg hk] at y; exact h1 j k a x y
  · dsimp only at x
    by_cases hj : j = i
    · rw [if_pos hj] at x; exact hG a (hS a x)
    · rw [if_neg hj] at x; exact h2 j a x
  · dsimp only at x
    by_cases hj : j = i
    · rw [if_pos hj] at x; exact y.2 x
    · rw [if_neg hj] at x; exact hU j a x y.1
  · by_cases hj : j = i
    · subst hj
      have hlt : j < ρ.length := by
        have := (List.getElem?_eq_some_iff.mp q).1
        rwa [List.length_set] at this
      rw [List.getElem?_set_self hlt] at q
      cases q
      refine ⟨v, List.getElem?_set_self (by rw [b3]; exact hlt), ?_⟩
      have e2 : (fun a => if j = j then S a else Ss j a) = S := by funext a; exact if_pos rfl
      show Own c B H n (fun a => if j = j then S a else Ss j a) v d
      rw [e2]
      exact o
    · rw [List.getElem?_set_ne (Ne.symm hj)] at q
      obtain ⟨u, hu, hw⟩ := h3 j m e q
      refine ⟨u, by rw [List.getElem?_set_ne (Ne.symm hj)]; exact hu, ?_⟩
      have e2 : (fun a => if j = i then S a else Ss j a) = Ss j := by funext a; exact if_neg hj
      show Own c B H m (fun a => if j = i then S a else Ss j a) u e
      rw [e2]
      exact hw
theorem EnvU.env (E : EnvU c G B H σ ρ U) : Env c G B H σ ρ := by
  obtain ⟨b1, b2, b3, Ss, h1, h2, hU, hG, h3⟩ := E
  exact ⟨b1, b2, b3, Ss, h1, h2, h3⟩
/-- a tuple of three of the frame's own, put at three slots -/
theorem run_unpack3 {i j k : Nat} (h : EX c te ρ (n + 1) (.tup [d1, d2, d3])) (q : P.nx (((ρ.set i (some (n, d1))).set j (some (n, d2))).set k (some (n, d3)))) : Run c (tAsg te (gTup c.K 3 (gCons (gName i) (gCons (gName j) (gCons (gName k) gNil))))) ρ P := fun B0 G B H σ E e b m =>
  h G B H σ e _ fun v H' ⟨B', S, T, f, o⟩ => by
    obtain ⟨a, vs, S1, rfl, hH, hB, hO, hn, hS⟩ := o
    match vs, hO with
    | [v1, v2, v3], hO =>
      obtain ⟨Sa, R1, o1, hO, x1, y1⟩ := hO
      obtain ⟨Sb, R2, o2, hO, x2, y2⟩ := hO
      obtain ⟨Sc, R3, o3, hO, x3, y3⟩ := hO
      have E0 := EnvU.start e T f
      have E1 := E0.put (i := i) o1 fun a z => (hS a).mpr (.inr ((y1 a).mpr (.inl z)))
      have E2 := E1.put (i := j) o2 fun a z => ⟨(hS a).mpr (.inr ((y1 a).mpr (.inr ((y2 a).mpr (.inl z))))), fun w => x1 a w ((y2 a).mpr (.inl z))⟩
      have E3 := E2.put (i := k) o3 fun a z => ⟨⟨(hS a).mpr (.inr ((y1 a).mpr (.inr ((y2 a).mpr (.inr ((y3 a).mpr (.inl z))))))), fun w => x1 a w ((y2 a).mpr (.inr ((y3 a).mpr (.inl z))))⟩, fun w => x2 a w ((y3 a).mpr (.inl z))⟩
      refine ⟨a, _, rfl, .of hH, rfl, _, _, rfl, _, _, rfl, _, _, rfl, rfl, ?_⟩
      exact m.nx B' H' _ _ q E3.env (b.step e.gh T)
/-- two values of the frame's own at once -/
theorem run_par {i j : Nat} (h : EA c ta ρ n [d1, d2]) (q : P.nx ((ρ.set i (some (n, d1))).set j (some (n, d2)))) : Run c (tPar i j ta) ρ P := fun B0 G B H σ E e b m =>
  h G B H σ e _ fun vs H' ⟨B', S, T, f, hO⟩ => by
    match vs, hO with
    | [v1, v2], hO =>
      obtain ⟨Sa, R1, o1, hO, x1, y1⟩ := hO
      obtain ⟨Sb, R2, o2, hO, x2, y2⟩ := hO
      have E0 := EnvU.start e T f
      have E1 := E0.put (i := i) o1 fun a z => (y1 a).mpr (.inl z)
      have E2 := E1.put (i := j) o2 fun a z => ⟨(y1 a).mpr (.inr ((y2 a).mpr (.inl z))), fun w => x1 a w ((y2 a).mpr (.inl z))⟩
      exact ⟨v1, v2, rfl, m.nx B' H' _ _ q E2.env (b.step e.gh T)⟩
theorem Own.unfix {S : Addr → Prop} (o : Own c B H 0 S v (.fix d)) : Own c B H 0 S v d := by
  obtain ⟨h1, h2⟩ := o
  cases h2 with
  | fix h => exact ⟨h1, h⟩
/-- what a slot holds, settled, told without the mark -/
theorem run_unfix {t : TS} {i : Nat} (hi : ρ[i]? = some (some (n, .fix d))) (k : Run c t (ρ.set i (some (0, d))) P) : Run c t ρ P := by
  refine run_give hi ?_
  intro B0 G B H σ E e b m
  refine k B0 G B H σ E ?_ b m
  obtain ⟨Ss, h1, h2, h3⟩ := e.own
  have hlt : i < ρ.length := (List.getElem?_eq_some_iff.mp hi).1
  refine ⟨e.bh, e.gh, by rw [e.len, List.length_set, List.length_set], Ss, h1, h2, fun j m' d' q => ?_⟩
  by_cases hj : j = i
  · subst hj
    rw [List.getElem?_set_self hlt] at q
    cases q
    obtain ⟨u, hu, ho⟩ := h3 j 0 (.fix d) (List.getElem?_set_self hlt)
    exact ⟨u, hu, ho.unfix⟩
  · rw [List.getElem?_set_ne (Ne.symm hj)] at q
    exact h3 j m' d' (by rw [List.getElem?_set_ne (Ne.symm hj)]; exact q)
/-- a settled value within what is the frame's own -/
theorem ex_fix (h : EX c te ρ 0 d) : EX c te ρ n (.fix d) := fun G B H σ E Q k => h.at0 E fun v B' H' T r _ => k v H' (by
  cases n with
  | zero => exact .imm T (.fix r)
  | succ n => exact ⟨B', fun _ => False, T, fun _ z => z.elim, fun _ z => z, .fix r⟩)
end
end DL

/-! DBaseH: list.pop; a list of ints changed somehow. -/
namespace DL
open PySem L2
section
variable {c : Cfg} {ρ : Rho} {ti : TE} {P : Posts} {ds : List D} {i : Int} {k : Nat}
theorem DRs.eraseIdx {H : Hp} : ∀ {vs : List V} {ds : List D} (k : Nat), DRs c H vs ds → DRs c H (vs.eraseIdx k) (ds.eraseIdx k)
  | _, _, _, .nil => .nil
  | _, _, 0, .cons _ hs => hs
  | _, _, k + 1, .cons h hs => .cons h (DRs.eraseIdx k hs)
/-- xs.pop(i), xs the frame's own, its items settled -/
theorem run_popAt {l : Nat} (hl : ρ[l]? = some (some (1, .lst ds))) (hi : EX c ti ρ 0 (.int i)) (h0 : 0 ≤ i) (hk : i.toNat < ds.length) (h2 : i < 2 ^ 63) (q : P.nx (ρ.set l (some (1, .lst (ds.eraseIdx i.toNat))))) :
    Run c (tDrop (tBM c.K "list" rPopAt (tVar l) (tCons ti tNil))) ρ P := fun B0 G B H σ E e b m => by
  obtain ⟨Ss, _, _, h3⟩ := id e.own
  obtain ⟨v, hv, a, vs, S1, rfl, hH, hB, hO, hn, hS1⟩ := h3 l _ _ hl
  have hlen : vs.length = ds.length := OwnL.length hO
  refine ⟨_, hv, .inl ⟨rfl, _, .of hH⟩, hi.int e fun B2 H2 T2 e2 => ?_⟩
  obtain ⟨y, hy⟩ : ∃ y, vs[i.toNat]? = some y := ⟨_, List.getElem?_eq_getElem (by omega)⟩
  refine ⟨a, vs, i, i.toNat, y, rfl, rfl, T2.hH _ _ hH, by omega, h2, seqIndex_of h0 (by omega), hy, ?_⟩
  refine m.nx B2 _ σ _ q (e.mut T2 hl hv fun vs2 S2 hH2 hO2 hn2 hF => ?_) (b.step e.gh T2)
  rw [hH] at hH2
  cases hH2
  exact ⟨fun _ => False, OwnL.of_drs (DRs.eraseIdx _ (OwnL.of0 hF)), fun z => z, fun _ z => z.elim⟩
theorem dropLast_erase {α : Type} (l : List α) : l.dropLast = l.eraseIdx (l.length - 1) := by
  rw [List.eraseIdx_length_sub_one]
/-- xs.pop() -/
theorem run_pop {l : Nat} (hl : ρ[l]? = some (some (1, .lst ds))) (hk : 0 < ds.length) (q : P.nx (ρ.set l (some (1, .lst ds.dropLast)))) :
    Run c (tDrop (tBM0 c.K "list" rPop (tVar l))) ρ P := fun B0 G B H σ E e b m => by
  obtain ⟨Ss, _, _, h3⟩ := id e.own
  obtain ⟨v, hv, a, vs, S1, rfl, hH, hB, hO, hn, hS1⟩ := h3 l _ _ hl
  have hlen : vs.length = ds.length := OwnL.length hO
  obtain ⟨y, hy⟩ : ∃ y, vs[vs.length - 1]? = some y := ⟨_, List.getElem?_eq_getElem (by omega)⟩
  refine ⟨_, hv, .inl ⟨rfl, _, .of hH⟩, a, vs, y, rfl, rfl, hH, hy, ?_⟩
  have T2 : Step B H B H := .refl e.bh
  refine m.nx B _ σ _ q (e.mut T2 hl hv fun vs2 S2 hH2 hO2 hn2 hF => ?_) b
  rw [hH] at hH2
  cases hH2
  have h := DRs.eraseIdx (vs.length - 1) (OwnL.of0 hF)
  rw [← dropLast_erase, hlen, ← dropLast_erase] at h
  exact ⟨fun _ => False, OwnL.of_drs h, fun z => z, fun _ z => z.elim⟩
end
end DL
namespace DL
theorem ix_of {n : Nat} {i : Int} (h0 : 0 ≤ i) (h1 : i < n) : L2.ixN n i = some i.toNat := by
  unfold L2.ixN
  rw [if_pos h0, if_pos h1]
end DL
namespace DL
theorem erase_map {α β : Type} (f : α → β) : ∀ (l : List α) (k : Nat), (l.map f).eraseIdx k = (l.eraseIdx k).map f
  | [], _ => rfl
  | _ :: _, 0 => rfl
  | a :: l, k + 1 => by
    show f a :: (l.map f).eraseIdx k = f a :: (l.eraseIdx k).map f
    rw [erase_map f l k]
end DL
namespace DL
open PySem L2
section
variable {c : Cfg} {ι : Type} {args : ι → List D} {pre : ι → Prop} {n : Nat} {ρ : Rho} {ta : TA} {E : XK} {P : Posts} {d1 d2 d3 : D}
theorem unpack3_core {i j k : Nat} {G B H H' : Hp} {σ : L2.St} {v : V} {Q : L2.St → Hp → Prop} (R : Res c B H H' (n + 1) v (.tup [d1, d2, d3])) (e : Env c G B H σ ρ)
    (q : ∀ B' σ', Step B H B' H' → Env c G B' H' σ' (((ρ.set i (some (n, d1))).set j (some (n, d2))).set k (some (n, d3))) → Q σ' H') : gTup c.K 3 (gCons (gName i) (gCons (gName j) (gCons (gName k) gNil))) v σ H' Q := by
  obtain ⟨B', S, T, f, o⟩ := R
  obtain ⟨a, vs, S1, rfl, hH, hB, hO, hn, hS⟩ := o
  match vs, hO with
  | [v1, v2, v3], hO =>
    obtain ⟨Sa, R1, o1, hO, x1, y1⟩ := hO
    obtain ⟨Sb, R2, o2, hO, x2, y2⟩ := hO
    obtain ⟨Sc, R3, o3, hO, x3, y3⟩ := hO
    have E0 := EnvU.start e T f
    have E1 := E0.put (i := i) o1 fun a z => (hS a).mpr (.inr ((y1 a).mpr (.inl z)))
    have E2 := E1.put (i := j) o2 fun a z => ⟨(hS a).mpr (.inr ((y1 a).mpr (.inr ((y2 a).mpr (.inl z))))), fun w => x1 a w ((y2 a).mpr (.inl z))⟩
    have E3 := E2.put (i := k) o3 fun a z => ⟨⟨(hS a).mpr (.inr ((y1 a).mpr (.inr ((y2 a).mpr (.inr ((y3 a).mpr (.inl z))))))), fun w => x1 a w ((y2 a).mpr (.inr ((y3 a).mpr (.inl z))))⟩, fun w => x2 a w ((y3 a).mpr (.inl z))⟩
    exact ⟨a, _, rfl, .of hH, rfl, _, _, rfl, _, _, rfl, _, _, rfl, rfl, q B' _ T E3.env⟩
/-- three of the frame's own, told by a relation, put at three slots -/
theorem run_unpack3R {i j k : Nat} {rel : ι → D → D → D → Prop} (x : ι) (ha : EA c ta ρ 0 (args x)) (hp : pre x) (q : ∀ d1 d2 d3, rel x d1 d2 d3 → P.nx (((ρ.set i (some (n, d1))).set j (some (n, d2))).set k (some (n, d3)))) :
    Run c (tAsg (tCall (spG c args pre (n + 1) (fun x d => ∃ d1 d2 d3, d = .tup [d1, d2, d3] ∧ rel x d1 d2 d3)) [] E ta) (gTup c.K 3 (gCons (gName i) (gCons (gName j) (gCons (gName k) gNil))))) ρ P := fun B0 G B H σ Z e b m =>
  ha.at0 e fun vs B1 H1 T1 r e1 => ⟨x, B1, hp, e1.bh, by rw [List.append_nil]; exact r, fun v H' d hd R => by
    obtain ⟨d1, d2, d3, rfl, hr⟩ := hd
    exact unpack3_core (i := i) (j := j) (k := k) R e1 fun B' σ' T e' => m.nx B' H' σ' _ (q d1 d2 d3 hr) e' ((b.step e.gh T1).step e1.gh T)⟩
end
end DL

/-! DBaseI: lists of lists of the frame's own: a row put anew, a row left out, a row's item put anew; lists of ints owned to any depth. -/
namespace DL
open PySem L2
section
variable {c : Cfg} {ρ : Rho} {te ti tj : TE} {P : Posts} {ds es : List D} {d : D} {i i2 : Int} {n m : Nat} {B H : Hp} {S : Addr → Prop} {v : V}
theorem Own.intI (o : Own c B H n S v (.int i)) : (∀ a, ¬ S a) ∧ v = .int i := by
  cases n with
  | zero => exact ⟨o.1, o.2.int_inv⟩
  | succ n => exact o
theorem Own.ofInt (h : (∀ a, ¬ S a) ∧ v = .int i) : Own c B H n S v (.int i) := by
  obtain ⟨h1, rfl⟩ := h
  cases n with
  | zero => exact ⟨h1, .int i⟩
  | succ n => exact ⟨h1, rfl⟩
theorem OwnL.reI : ∀ {S : Addr → Prop} {vs : List V} {xs : List Int}, OwnL (Own c B H n) S vs (xs.map D.int) → OwnL (Own c B H m) S vs (xs.map D.int)
  | _, [], [], h => h
  | _, _ :: _, _ :: _, ⟨S1, S2, h1, h2, h3, h4⟩ => ⟨S1, S2, .ofInt h1.intI, OwnL.reI h2, h3, h4⟩
  | _, [], _ :: _, h => h.elim
  | _, _ :: _, [], h => h.elim
theorem Own.reI {xs : List Int} (o : Own c B H (n + 1) S v (.lst (xs.map D.int))) : Own c B H (m + 1) S v (.lst (xs.map D.int)) := by
  obtain ⟨a, vs, S1, e, h, hb, hO, hn, hS⟩ := o
  exact ⟨a, vs, S1, e, h, hb, hO.reI, hn, hS⟩
theorem EX.upI {xs : List Int} (h : EX c te ρ 1 (Dat.d xs)) : EX c te ρ (n + 1) (Dat.d xs) := fun G B H σ E Q k => h G B H σ E Q fun v H' ⟨B', S, T, f, o⟩ => k v H' ⟨B', S, T, f, Own.reI (n := 0) o⟩
/-- a list of ints made of what stands now -/
theorem EX.ofCurL {xs : List Int} (h : EX c te (cur ρ) 1 (Dat.d xs)) : EX c te ρ 1 (Dat.d xs) := fun G B H σ E Q k => h H H H σ E.cur Q fun v H' R => by
  obtain ⟨B', S, T, f, a, vs, S1, rfl, hH, hB, hO, hn, hS⟩ := R
  have e0 : DRs c B' vs (xs.map D.int) := OwnL.drs (fun _ _ _ _ z => z.2) hO
  have e1 : DRs c B vs (xs.map D.int) := by
    rw [e0.ints]
    exact DRs.of_ints xs
  have ha : H a = none := f a ((hS a).mpr (.inl rfl))
  exact k _ _ ⟨B, fun b => b = a, .grow E.bh T.hH, fun b z => by rw [z]; exact ha, a, vs, fun _ => False, rfl, hH, Ex.back E.bh ha, OwnL.of_drs e1, fun z => z, fun b => ⟨.inl, fun z => z.elim id fun y => y.elim⟩⟩
theorem Env.conv {G B H : Hp} {σ : L2.St} {i : Nat} {d d' : D} (e : Env c G B H σ ρ) (hi : ρ[i]? = some (some (n, d))) (h : ∀ S v, Own c B H n S v d → Own c B H m S v d') : Env c G B H σ (ρ.set i (some (m, d'))) := by
  obtain ⟨Ss, h1, h2, h3⟩ := e.own
  have hlt : i < ρ.length := (List.getElem?_eq_some_iff.mp hi).1
  refine ⟨e.bh, e.gh, by rw [e.len, List.length_set], Ss, h1, h2, fun j m' d2 q => ?_⟩
  by_cases hj : j = i
  · subst hj
    rw [List.getElem?_set_self hlt] at q
    cases q
    obtain ⟨u, hu, ho⟩ := h3 j n d hi
    exact ⟨u, hu, h _ _ ho⟩
  · rw [List.getElem?_set_ne (Ne.symm hj)] at q
    exact h3 j m' d2 q
theorem run_reI {t : TS} {l : Nat} {xs : List Int} (hl : ρ[l]? = some (some (n + 1, Dat.d xs))) (k : Run c t (ρ.set l (some (m + 1, Dat.d xs))) P) : Run c t ρ P := fun B0 G B H σ E e b mm =>
  k B0 G B H σ E (e.conv hl fun S v o => Own.reI (n := n) o) b mm
/-! ### a row left out, a row put anew -/
theorem OwnL.erase {p : (Addr → Prop) → V → D → Prop} : ∀ {S : Addr → Prop} {vs : List V} {ds : List D} (k : Nat), OwnL p S vs ds → ∃ S', OwnL p S' (vs.eraseIdx k) (ds.eraseIdx k) ∧ ∀ a, S' a → S a
  | S, [], [], _, h => ⟨S, h, fun _ z => z⟩
  | S, _ :: _, _ :: _, 0, ⟨S1, S2, h1, h2, h3, h4⟩ => ⟨S2, h2, fun a z => (h4 a).mpr (.inr z)⟩
  | S, _ :: _, _ :: _, k + 1, ⟨S1, S2, h1, h2, h3, h4⟩ => by
    obtain ⟨S', g1, g2⟩ := OwnL.erase k h2
    exact ⟨fun a => S1 a ∨ S' a, ⟨S1, S', h1, g1, fun a z w => h3 a z (g2 a w), fun a => Iff.rfl⟩, fun a z => (h4 a).mpr (z.elim .inl fun w => .inr (g2 a w))⟩
  | _, [], _ :: _, _, h => h.elim
  | _, _ :: _, [], _, h => h.elim
theorem OwnL.put {p : (Addr → Prop) → V → D → Prop} {U : Addr → Prop} {u : V} {d : D} (hu : p U u d) : ∀ {S : Addr → Prop} {vs : List V} {ds : List D} (k : Nat), OwnL p S vs ds → (∀ a, S a → ¬ U a) → ∃ S', OwnL p S' (vs.set k u) (ds.set k d) ∧ ∀ a, S' a → S a ∨ U a
  | S, [], [], _, h, _ => ⟨S, h, fun _ z => .inl z⟩
  | S, _ :: _, _ :: _, 0, ⟨S1, S2, h1, h2, h3, h4⟩, hd => ⟨fun a => U a ∨ S2 a, ⟨U, S2, hu, h2, fun a z w => hd a ((h4 a).mpr (.inr w)) z, fun a => Iff.rfl⟩, fun a z => z.elim .inr fun w => .inl ((h4 a).mpr (.inr w))⟩
  | S, _ :: _, _ :: _, k + 1, ⟨S1, S2, h1, h2, h3, h4⟩, hd => by
    obtain ⟨S', g1, g2⟩ := OwnL.put hu k h2 fun a z => hd a ((h4 a).mpr (.inr z))
    exact ⟨fun a => S1 a ∨ S' a, ⟨S1, S', h1, g1, fun a z w => (g2 a w).elim (h3 a z) (hd a ((h4 a).mpr (.inl z))), fun a => Iff.rfl⟩, fun a z => z.elim (fun w => .inl ((h4 a).mpr (.inl w))) fun w => (g2 a w).elim (fun y => .inl ((h4 a).mpr (.inr y))) .inr⟩
  | _, [], _ :: _, _, h, _ => h.elim
  | _, _ :: _, [], _, h, _ => h.elim
/-- xs.pop(i), xs the frame's own -/
theorem run_popAtN {l : Nat} (hl : ρ[l]? = some (some (n + 1, .lst ds))) (hi : EX c ti ρ 0 (.int i)) (h0 : 0 ≤ i) (hk : i.toNat < ds.length) (h2 : i < 2 ^ 63) (q : P.nx (ρ.set l (some (n + 1, .lst (ds.eraseIdx i.toNat))))) :
    Run c (tDrop (tBM c.K "list" rPopAt (tVar l) (tCons ti tNil))) ρ P := fun B0 G B H σ E e b m => by
  obtain ⟨Ss, _, _, h3⟩ := id e.own
  obtain ⟨v, hv, a, vs, S1, rfl, hH, hB, hO, hn, hS1⟩ := h3 l _ _ hl
  have hlen : vs.length = ds.length := OwnL.length hO
  refine ⟨_, hv, .inl ⟨rfl, _, .of hH⟩, hi.int e fun B2 H2 T2 e2 => ?_⟩
  obtain ⟨y, hy⟩ : ∃ y, vs[i.toNat]? = some y := ⟨_, List.getElem?_eq_getElem (by omega)⟩
  refine ⟨a, vs, i, i.toNat, y, rfl, rfl, T2.hH _ _ hH, by omega, h2, seqIndex_of h0 (by omega), hy, ?_⟩
  refine m.nx B2 _ σ _ q (e.mut T2 hl hv fun vs2 S2 hH2 hO2 hn2 hF => ?_) (b.step e.gh T2)
  rw [hH] at hH2
  cases hH2
  obtain ⟨S', g1, g2⟩ := OwnL.erase i.toNat hF
  exact ⟨S', g1, fun z => hn2 (g2 _ z), fun b z => .inl (g2 b z)⟩
/-- xs[i] = e, xs the frame's own -/
theorem run_setIxN {l k : Nat} (hl : ρ[l]? = some (some (n + 1, .lst ds))) (h : EX c te ρ n d) (hi : EX c ti ρ 0 (.int i)) (hk : ixN ds.length i = some k) (q : P.nx (ρ.set l (some (n + 1, .lst (ds.set k d))))) :
    Run c (tAsg te (gSub (tVar l) ti rSetL)) ρ P := fun B0 G B H σ E e b m => h G B H σ e _ fun y H1 ⟨B1, S, T1, f, o⟩ => by
  have e1 := e.step T1
  obtain ⟨Ss, _, _, h3⟩ := id e.own
  obtain ⟨v, hv, a, vs, S1, rfl, hH, hB, hO, hn, hS1⟩ := h3 l _ _ hl
  refine ⟨_, hv, hi.int e1 fun B2 H2 T2 e2 => ?_⟩
  have hlen : vs.length = ds.length := OwnL.length hO
  refine ⟨a, vs, i, k, rfl, rfl, T2.hH _ _ (T1.hH _ _ hH), by rw [hlen]; exact hk, ?_⟩
  have T := T1.trans T2
  refine m.nx B2 _ σ _ q (e.mut T hl hv fun vs2 S2 hH2 hO2 hn2 hF => ?_) (b.step e.gh T)
  rw [hH] at hH2
  cases hH2
  have o2 : Own c B2 H2 n S y d := o.frame T2.hB (fun b z => T2.off (o.there b z).1 (o.there b z).2) fun b u _ q => T2.hH b u q
  obtain ⟨S', g1, g2⟩ := OwnL.put o2 k hF fun b z w => by
    obtain ⟨_, u, hu⟩ := hO2.thereE b z
    rw [f b w] at hu; cases hu
  refine ⟨S', g1, fun z => (g2 _ z).elim hn2 fun w => ?_, fun b z => (g2 b z).elim .inl fun w => .inr (f b w)⟩
  rw [f a w] at hH; cases hH
/-! ### a row's item put anew -/
theorem run_setIn2 {l j k : Nat} (hl : ρ[l]? = some (some (2, .lst ds))) (h : EX c te ρ 0 d) (hi : EX c ti ρ 0 (.int i)) (hij : i = (j : Int)) (hj : ds[j]? = some (.lst es)) (hi2 : EX c tj ρ 0 (.int i2)) (hk : ixN es.length i2 = some k) (q : P.nx (ρ.set l (some (2, .lst (ds.set j (.lst (es.set k d))))))) :
    Run c (tAsg te (gSub (tOp (rIxL c.K) (tVar l) ti) tj rSetL)) ρ P := fun B0 G B H σ E e0 b m => h.at0 e0 fun y B1 H1 T1 r1 e => by
  subst hij
  obtain ⟨Ss0, _, _, h30⟩ := id e.own
  obtain ⟨v, hv, a, vs, S1, rfl, hH, hB, hO, hn, hS1⟩ := h30 l _ _ hl
  refine ⟨_, hv, hi.int e fun B2 H2 T2 e2 => ?_⟩
  obtain ⟨x, S2, hx, hw, hsub⟩ := OwnL.get hO hj
  obtain ⟨a2, ws, S3, rfl, hH2, hB2, hO2, hn2, hS2⟩ := hw
  refine ⟨a, vs, (j : Int), _, rfl, rfl, .of (T2.hH _ _ hH), atI_nat hx, hi2.int e2 fun B3 H3 T3 e3 => ?_⟩
  have T := T2.trans T3
  have hlen : ws.length = es.length := OwnL.length hO2
  refine ⟨a2, ws, i2, k, rfl, rfl, T.hH _ _ hH2, by rw [hlen]; exact hk, ?_⟩
  refine m.nx B3 _ σ _ q ?_ (b.step e0.gh (T1.trans T))
  obtain ⟨Ss, h1, h2, h3⟩ := e3.own
  obtain ⟨v', hv', a', vs', S1', e0', hH', hB', hO', hn', hS1'⟩ := h3 l _ _ hl
  rw [hv] at hv'
  cases hv'
  cases e0'
  rw [T.hH _ _ hH] at hH'
  cases hH'
  obtain ⟨x', S2', hx2, hw', hsub'⟩ := OwnL.get hO' hj
  rw [hx] at hx2
  cases hx2
  have mem : ∀ S4 : Addr → Prop, Own c B3 H3 1 S4 (.ref a2) (.lst es) → S4 a2 := fun S4 q => by
    obtain ⟨a3, _, _, e3, _, _, _, _, q5⟩ := q
    cases e3
    exact (q5 _).mpr (.inl rfl)
  have m1 : S1' a2 := hsub' _ (mem _ hw')
  have ml : Ss l a2 := (hS1' _).mpr (.inr m1)
  have hBa2 : B3 a2 = none := (hO'.thereE a2 m1).1
  have naa : a ≠ a2 := fun q => hn' (by rw [q]; exact m1)
  refine ⟨Ex.mut e3.bh hBa2, Ex.mut e3.gh (h2 l a2 ml), by rw [List.length_set, e3.len], Ss, h1, h2, fun p m' d' q => ?_⟩
  by_cases hp : p = l
  · subst hp
    rw [List.getElem?_set_self (List.getElem?_eq_some_iff.mp hl).1] at q
    cases q
    refine ⟨_, hv, a, vs, S1', rfl, by rw [upd_ne naa]; exact T.hH _ _ hH, hB', ?_, hn', hS1'⟩
    refine OwnL.setAt (R := Own c B3 H3 1) (a2 := a2) (x := .ref a2) (d := .lst es) (fun S4 v d z w => ?_) (fun S4 w => ?_) mem hO' hj hx
    · exact w.frame (Ex.refl _) (fun a z => (w.there a z).1) fun a o z' q => by rw [upd_ne (z a z')]; exact q
    · obtain ⟨a3, ws3, S5, e3', g1, g2, g3, g4, g5⟩ := w
      cases e3'
      rw [T.hH _ _ hH2] at g1
      cases g1
      have r3 : DR c B3 y d := (r1.mono T2.hB).mono T3.hB
      have n5 : ∀ a, ¬ S5 a := fun b z => by
        have := OwnL.there (R := fun _ => False) (fun _ _ _ (w : Own c B3 H3 0 _ _ _) b z => w.1 b z) g3 b z
        exact this
      refine ⟨a2, _, fun _ => False, rfl, upd_same, g2, OwnL.of_drs (DRs.set r3 k (OwnL.of0 g3)), fun z => z, fun p => ?_⟩
      rw [g5 p]
      exact ⟨fun z => z.elim .inl fun w => (n5 p w).elim, fun z => z.elim .inl fun w => w.elim⟩
  · rw [List.getElem?_set_ne (Ne.symm hp)] at q
    obtain ⟨u, hu, hw2⟩ := h3 p m' d' q
    refine ⟨u, hu, hw2.frame (Ex.refl _) (fun a z => (hw2.there a z).1) fun a o' z w => ?_⟩
    rw [upd_ne (fun e => hp (h1 p l a z (by rw [e]; exact ml)))]
    exact w
end
end DL

/-! MathH: what a hall is, as the program looks at it. -/
namespace DL
abbrev EndsT := List (Int × Int)
abbrev TableT := List (List Int)
def endBad (n : Int) (p : Int × Int) : Bool := decide (p.1 < 0) || (decide (n ≤ p.1) || (decide (p.2 < 0) || decide (n ≤ p.2)))
def endsRight (e : EndsT) (n : Int) : Bool := e.all fun p => !endBad n p
def madeRight (e : EndsT) (one other made : Int) : Bool :=
  if (!decide ((at' e one).2 = (at' e other).1)) = true then decide (made = -1) else if (decide (made < 0) || decide ((e.length : Int) ≤ made)) = true then false else eqT (at' e made) ((at' e one).1, (at' e other).2)
def rowRight (e : EndsT) (t : TableT) (i : Nat) : Bool := decide (((at' t (i : Int)).length : Int) = (e.length : Int)) && (List.range e.length).all fun j => madeRight e (i : Int) (j : Int) (at' (at' t (i : Int)) (j : Int))
def tableRight (e : EndsT) (t : TableT) : Bool := decide ((t.length : Int) = (e.length : Int)) && (List.range e.length).all (rowRight e t)
def restArrow (e : EndsT) (t : TableT) (box rest : Int) (a : Nat) : Bool :=
  !(decide ((at' e (a : Int)).1 = box) && !decide (at' (at' t rest) (a : Int) = (a : Int))) && !(decide ((at' e (a : Int)).2 = box) && !decide (at' (at' t (a : Int)) rest = (a : Int)))
def restRight (e : EndsT) (r : List Int) (t : TableT) (b : Nat) : Bool :=
  !(decide (at' r (b : Int) < 0) || (decide ((e.length : Int) ≤ at' r (b : Int)) || !eqT (at' e (at' r (b : Int))) ((b : Int), (b : Int)))) && (List.range e.length).all (restArrow e t (b : Int) (at' r (b : Int)))
def restsRight (e : EndsT) (r : List Int) (t : TableT) : Bool := (List.range r.length).all (restRight e r t)
def threeRight (t : TableT) (i j k : Nat) : Bool := !(decide (0 ≤ at' (at' t (j : Int)) (k : Int)) && !decide (at' (at' t (at' (at' t (i : Int)) (j : Int))) (k : Int) = at' (at' t (i : Int)) (at' (at' t (j : Int)) (k : Int))))
def twoRight (n : Nat) (t : TableT) (i j : Nat) : Bool := !decide (0 ≤ at' (at' t (i : Int)) (j : Int)) || (List.range n).all (threeRight t i j)
def threesRight (e : EndsT) (t : TableT) : Bool := (List.range e.length).all fun i => (List.range e.length).all (twoRight e.length t i)
def hallRight (e : EndsT) (r : List Int) (t : TableT) : Bool :=
  if (decide ((r.length : Int) < 1) || (decide (6 < (r.length : Int)) || (decide ((e.length : Int) < 1) || decide (40 < (e.length : Int))))) = true then false else if (!endsRight e (r.length : Int) || !tableRight e t) = true then false else restsRight e r t && threesRight e t
end DL
namespace DL
theorem all_range {n : Nat} {p : Nat → Bool} : (List.range n).all p = true ↔ ∀ i, i < n → p i = true := by
  rw [List.all_eq_true]
  exact ⟨fun h i hi => h i (List.mem_range.mpr hi), fun h i hi => h i (List.mem_range.mp hi)⟩
theorem tr_len {e : EndsT} {t : TableT} (h : tableRight e t = true) : t.length = e.length := by
  unfold tableRight at h
  rw [Bool.and_eq_true, decide_eq_true_eq] at h
  omega
theorem tr_row {e : EndsT} {t : TableT} (h : tableRight e t = true) {i : Int} (h0 : 0 ≤ i) (h1 : i < e.length) : (at' t i).length = e.length := by
  unfold tableRight at h
  rw [Bool.and_eq_true, all_range] at h
  have q := h.2 i.toNat (by omega)
  unfold rowRight at q
  rw [Bool.and_eq_true, decide_eq_true_eq, Int.toNat_of_nonneg h0] at q
  omega
theorem tr_made {e : EndsT} {t : TableT} (h : tableRight e t = true) {i j : Int} (h0 : 0 ≤ i) (h1 : i < e.length) (h2 : 0 ≤ j) (h3 : j < e.length) : madeRight e i j (at' (at' t i) j) = true := by
  unfold tableRight at h
  rw [Bool.and_eq_true, all_range] at h
  have q := h.2 i.toNat (by omega)
  unfold rowRight at q
  rw [Bool.and_eq_true, all_range, Int.toNat_of_nonneg h0] at q
  have r := q.2 j.toNat (by omega)
  rw [Int.toNat_of_nonneg h2] at r
  exact r
/-- what an entry of a right table is -/
theorem made_of {e : EndsT} {one other made : Int} (h : madeRight e one other made = true) : ((at' e one).2 ≠ (at' e other).1 ∧ made = -1) ∨ ((at' e one).2 = (at' e other).1 ∧ 0 ≤ made ∧ made < e.length ∧ at' e made = ((at' e one).1, (at' e other).2)) := by
  unfold madeRight at h
  by_cases q : (at' e one).2 = (at' e other).1
  · rw [if_neg (by rw [decide_eq_true q]; decide)] at h
    by_cases r : (decide (made < 0) || decide ((e.length : Int) ≤ made)) = true
    · rw [if_pos r] at h; cases h
    · rw [if_neg r, eqT_iff] at h
      rw [Bool.or_eq_true, decide_eq_true_eq, decide_eq_true_eq] at r
      exact .inr ⟨q, by omega, by omega, h⟩
  · rw [if_pos (by rw [decide_eq_false q]; decide), decide_eq_true_eq] at h
    exact .inl ⟨q, h⟩
theorem tr_lt {e : EndsT} {t : TableT} (h : tableRight e t = true) {i j : Int} (h0 : 0 ≤ i) (h1 : i < e.length) (h2 : 0 ≤ j) (h3 : j < e.length) : at' (at' t i) j < e.length := by
  rcases made_of (tr_made h h0 h1 h2 h3) with q | q <;> omega
end DL
namespace DL
theorem hall_parts {e : EndsT} {r : List Int} {t : TableT} (h : hallRight e r t = true) : (1 ≤ r.length ∧ r.length ≤ 6 ∧ 1 ≤ e.length ∧ e.length ≤ 40) ∧ endsRight e (r.length : Int) = true ∧ tableRight e t = true ∧ restsRight e r t = true ∧ threesRight e t = true := by
  unfold hallRight at h
  split at h
  · cases h
  · rename_i h1
    split at h
    · cases h
    · rename_i h2
      simp only [Bool.or_eq_true, decide_eq_true_eq, Bool.not_eq_true', not_or, Bool.not_eq_false] at h1 h2
      rw [Bool.and_eq_true] at h
      exact ⟨by omega, h2.1, h2.2, h.1, h.2⟩
theorem hall_table {e : EndsT} {r : List Int} {t : TableT} (h : hallRight e r t = true) : tableRight e t = true := (hall_parts h).2.2.1
theorem hall_size {e : EndsT} {r : List Int} {t : TableT} (h : hallRight e r t = true) : e.length ≤ 40 := (hall_parts h).1.2.2.2
end DL

/-! MathA: arrows told by their lists; closed lists of them; the hall that they make. -/
namespace DL
open PySem L2
abbrev Arr := Tri Int Int (Tup Int)
def allSizes : List (List Int) := [[1], [1, 1], [1, 1, 1], [1, 1, 1, 1], [1, 2], [2, 1], [2, 2], [0, 2], [2], [3], [1, 1, 2], [0, 1, 2], [1, 2, 2], [2, 1, 0]]
/-- an arrow of boxes of these sizes -/
structure AOk (sz : List Int) (a : Arr) : Prop where
  a0 : 0 ≤ a.a
  a1 : a.a < sz.length
  b0 : 0 ≤ a.b
  b1 : a.b < sz.length
  len : (a.c.l.length : Int) = at' sz a.a
  low : ∀ x ∈ a.c.l, 0 ≤ x ∧ x < at' sz a.b
def comp (f g : Arr) : Arr := ⟨f.a, g.b, ⟨f.c.l.map fun x => at' g.c.l x⟩⟩
def idA (sz : List Int) (b : Nat) : Arr := ⟨(b : Int), (b : Int), ⟨rangeI (at' sz (b : Int)).toNat⟩⟩
/-! items -/
section
variable {α β : Type} [Dat α] [Dat β]
theorem at_get {xs : List α} {i : Nat} (h : i < xs.length) : at' xs (i : Int) = xs[i] := at_nat (List.getElem?_eq_getElem h)
theorem at_map {xs : List α} {f : α → β} {i : Int} (h0 : 0 ≤ i) (h1 : i < xs.length) : at' (xs.map f) i = f (at' xs i) := by
  obtain ⟨j, rfl⟩ := Int.eq_ofNat_of_zero_le h0
  have hj : j < xs.length := by omega
  have e1 := at_get hj
  have e2 := at_get (xs := xs.map f) (i := j) (by rw [List.length_map]; exact hj)
  rw [List.getElem_map] at e2
  show at' (xs.map f) ((j : Nat) : Int) = f (at' xs ((j : Nat) : Int))
  rw [e1, e2]
theorem at_rangeI {n : Nat} {i : Int} (h0 : 0 ≤ i) (h1 : i < n) : at' (rangeI n) i = i := by
  obtain ⟨j, rfl⟩ := Int.eq_ofNat_of_zero_le h0
  have hj : j < n := by omega
  show at' (rangeI n) ((j : Nat) : Int) = ((j : Nat) : Int)
  rw [at_get (by rw [rangeI_length]; exact hj)]
  unfold rangeI
  rw [List.getElem_map, List.getElem_range]
theorem at_rangeMap {f : Nat → α} {n : Nat} {i : Nat} (h : i < n) : at' ((List.range n).map f) (i : Int) = f i := by
  rw [at_get (by rw [List.length_map, List.length_range]; exact h), List.getElem_map, List.getElem_range]
theorem mem_rangeI {n : Nat} {x : Int} : x ∈ rangeI n ↔ 0 ≤ x ∧ x < n := by
  unfold rangeI
  rw [List.mem_map]
  constructor
  · rintro ⟨k, hk, rfl⟩
    have := List.mem_range.mp hk
    omega
  · rintro ⟨h0, h1⟩
    exact ⟨x.toNat, List.mem_range.mpr (by omega), by omega⟩
end
theorem comp_ok {sz : List Int} {f g : Arr} (hf : AOk sz f) (hg : AOk sz g) (h : f.b = g.a) : AOk sz (comp f g) := by
  refine ⟨hf.a0, hf.a1, hg.b0, hg.b1, ?_, fun x hx => ?_⟩
  · show (((f.c.l.map fun x => at' g.c.l x).length : Nat) : Int) = _
    rw [List.length_map]
    exact hf.len
  · obtain ⟨y, hy, rfl⟩ := List.mem_map.mp hx
    obtain ⟨y0, y1⟩ := hf.low y hy
    exact hg.low _ (at_mem y0 (by rw [hg.len, ← h]; exact y1))
theorem id_ok {sz : List Int} {b : Nat} (hb : b < sz.length) (h0 : ∀ x ∈ sz, (0 : Int) ≤ x) : AOk sz (idA sz b) := by
  have q : 0 ≤ at' sz (b : Int) := h0 _ (at_mem (by omega) (by omega))
  refine ⟨by show (0 : Int) ≤ b; omega, by show (b : Int) < _; omega, by show (0 : Int) ≤ b; omega, by show (b : Int) < _; omega, ?_, fun x hx => ?_⟩
  · show ((rangeI _).length : Int) = at' sz (b : Int)
    rw [rangeI_length, Int.toNat_of_nonneg q]
  · have := mem_rangeI.mp hx
    show 0 ≤ x ∧ x < at' sz (b : Int)
    omega
theorem comp_id {sz : List Int} {f : Arr} (hf : AOk sz f) {b : Nat} (h : f.a = (b : Int)) : comp (idA sz b) f = f := by
  have hl : (at' sz (b : Int)).toNat = f.c.l.length := by
    have := hf.len
    rw [h] at this
    omega
  obtain ⟨fa, fb, ⟨l⟩⟩ := f
  have e : (rangeI (at' sz (b : Int)).toNat).map (fun x => at' l x) = l := by
    rw [hl]
    refine List.ext_getElem (by rw [List.length_map, rangeI_length]) fun i h1 h2 => ?_
    rw [List.getElem_map]
    have : (rangeI l.length)[i]'(by rw [rangeI_length]; exact h2) = (i : Int) := by
      unfold rangeI
      rw [List.getElem_map, List.getElem_range]
    show at' l ((rangeI l.length)[i]'_) = _
    rw [this, at_get h2]
  have h' : fa = (b : Int) := h
  show Tri.mk (b : Int) fb (Tup.mk ((rangeI (at' sz (b : Int)).toNat).map fun x => at' l x)) = ⟨fa, fb, ⟨l⟩⟩
  rw [e, h']
theorem id_comp {sz : List Int} {f : Arr} (hf : AOk sz f) {b : Nat} (h : f.b = (b : Int)) : comp f (idA sz b) = f := by
  obtain ⟨fa, fb, ⟨l⟩⟩ := f
  have h' : fb = (b : Int) := h
  have e : (l.map fun x => at' (rangeI (at' sz (b : Int)).toNat) x) = l := by
    have q : ∀ x ∈ l, at' (rangeI (at' sz (b : Int)).toNat) x = x := fun x hx => by
      obtain ⟨x0, x1⟩ := hf.low x hx
      have x1' : x < at' sz fb := x1
      rw [h'] at x1'
      exact at_rangeI x0 (by omega)
    rw [List.map_congr_left q, List.map_id']
  show Tri.mk fa (b : Int) (Tup.mk (l.map fun x => at' (rangeI (at' sz (b : Int)).toNat) x)) = ⟨fa, fb, ⟨l⟩⟩
  rw [e, h']
theorem comp_assoc {sz : List Int} {f g h : Arr} (hf : AOk sz f) (hg : AOk sz g) (e : f.b = g.a) : comp (comp f g) h = comp f (comp g h) := by
  unfold comp
  dsimp only
  rw [List.map_map]
  congr 2
  refine List.map_congr_left fun x hx => ?_
  obtain ⟨x0, x1⟩ := hf.low x hx
  rw [Function.comp_apply, at_map x0 (by rw [hg.len, ← e]; exact x1)]
/-! ### how many there are -/
def fns : Nat → Nat → List (List Int)
  | 0, _ => [[]]
  | n + 1, m => ((rangeI m).map fun x => (fns n m).map fun r => x :: r).flatten
def allArr (sz : List Int) : List Arr := ((rangeI sz.length).map fun a => ((rangeI sz.length).map fun b => (fns (at' sz a).toNat (at' sz b).toNat).map fun l => (⟨a, b, ⟨l⟩⟩ : Arr)).flatten).flatten
theorem mem_fns {m : Nat} : ∀ {l : List Int}, (∀ x ∈ l, 0 ≤ x ∧ x < (m : Int)) → l ∈ fns l.length m
  | [], _ => by simp [fns]
  | x :: l, h => by
    have h1 := h x List.mem_cons_self
    have ih := mem_fns (m := m) (l := l) fun y hy => h y (List.mem_cons_of_mem _ hy)
    rw [List.length_cons, fns, List.mem_flatten]
    exact ⟨_, List.mem_map.mpr ⟨x, mem_rangeI.mpr h1, rfl⟩, List.mem_map.mpr ⟨l, ih, rfl⟩⟩
theorem mem_allArr {sz : List Int} {a : Arr} (h : AOk sz a) : a ∈ allArr sz := by
  unfold allArr
  rw [List.mem_flatten]
  refine ⟨_, List.mem_map.mpr ⟨a.a, mem_rangeI.mpr ⟨h.a0, h.a1⟩, rfl⟩, ?_⟩
  rw [List.mem_flatten]
  refine ⟨_, List.mem_map.mpr ⟨a.b, mem_rangeI.mpr ⟨h.b0, h.b1⟩, rfl⟩, ?_⟩
  refine List.mem_map.mpr ⟨a.c.l, ?_, rfl⟩
  have hl : (at' sz a.a).toNat = a.c.l.length := by have := h.len; omega
  rw [hl]
  exact mem_fns fun x hx => by
    have := h.low x hx
    omega
theorem nodup_le {α : Type} [DecidableEq α] : ∀ {l L : List α}, l.Nodup → (∀ x ∈ l, x ∈ L) → l.length ≤ L.length
  | [], _, _, _ => Nat.zero_le _
  | x :: l, L, h, s => by
    rw [List.nodup_cons] at h
    have hx := s x List.mem_cons_self
    have ih := nodup_le (l := l) (L := L.erase x) h.2 fun y hy => by
      refine (List.mem_erase_of_ne (fun e => h.1 (by rw [← e]; exact hy))).mpr (s y (List.mem_cons_of_mem _ hy))
    rw [List.length_erase_of_mem hx] at ih
    have : 0 < L.length := List.length_pos_of_mem hx
    rw [List.length_cons]
    omega
theorem all_count : ∀ sz ∈ allSizes, (allArr sz).length ≤ 40 := by decide +kernel
theorem all_small : ∀ sz ∈ allSizes, (∀ x ∈ sz, (0 : Int) ≤ x ∧ x ≤ 3) ∧ 1 ≤ sz.length ∧ sz.length ≤ 4 := by decide +kernel
theorem ok_count {sz : List Int} {l : List Arr} (hs : sz ∈ allSizes) (hn : l.Nodup) (ho : ∀ a ∈ l, AOk sz a) : l.length ≤ 40 := Nat.le_trans (nodup_le hn fun a ha => mem_allArr (ho a ha)) (all_count sz hs)
/-! ### a closed list, and the hall of it -/
structure GoodA (sz : List Int) (known : List Arr) : Prop where
  sm : sz ∈ allSizes
  nd : known.Nodup
  ok : ∀ a ∈ known, AOk sz a
  cl : ∀ f ∈ known, ∀ g ∈ known, f.b = g.a → comp f g ∈ known
  id : ∀ b, b < sz.length → idA sz b ∈ known
def idx (known : List Arr) (a : Arr) : Nat := known.findIdx fun x => decide (x = a)
theorem idx_lt {known : List Arr} {a : Arr} (h : a ∈ known) : idx known a < known.length := List.findIdx_lt_length_of_exists ⟨a, h, decide_eq_true rfl⟩
theorem idx_at {known : List Arr} {a : Arr} (h : a ∈ known) : at' known (idx known a : Int) = a := by
  rw [at_get (idx_lt h)]
  have := List.findIdx_getElem (w := idx_lt h)
  exact of_decide_eq_true this
theorem idx_get {known : List Arr} (hn : known.Nodup) {i : Nat} (h : i < known.length) : idx known (known[i]) = i := by
  have h1 := idx_lt (List.getElem_mem h)
  have h2 := idx_at (List.getElem_mem h)
  rw [at_get h1] at h2
  exact (List.getElem_inj hn).mp h2
def entry (known : List Arr) (f g : Arr) : Int := if f.b = g.a then (idx known (comp f g) : Int) else -1
def endsOf (known : List Arr) : EndsT := known.map fun a => (a.a, a.b)
def tableOf (known : List Arr) : TableT := known.map fun f => known.map fun g => entry known f g
def restsOf (sz : List Int) (known : List Arr) : List Int := (List.range sz.length).map fun b => (idx known (idA sz b) : Int)
section
variable {sz : List Int} {known : List Arr}
theorem endsOf_len : (endsOf known).length = known.length := List.length_map ..
theorem tableOf_len : (tableOf known).length = known.length := List.length_map ..
theorem restsOf_len : (restsOf sz known).length = sz.length := by unfold restsOf; rw [List.length_map, List.length_range]
theorem ends_at {i : Int} (h0 : 0 ≤ i) (h1 : i < known.length) : at' (endsOf known) i = ((at' known i).a, (at' known i).b) := at_map h0 h1
theorem table_at {i j : Int} (h0 : 0 ≤ i) (h1 : i < known.length) (h2 : 0 ≤ j) (h3 : j < known.length) : at' (at' (tableOf known) i) j = entry known (at' known i) (at' known j) := by
  unfold tableOf
  rw [at_map (f := fun f => known.map fun g => entry known f g) h0 h1, at_map (f := fun g => entry known (at' known i) g) h2 h3]
theorem row_len {i : Int} (h0 : 0 ≤ i) (h1 : i < known.length) : (at' (tableOf known) i).length = known.length := by
  unfold tableOf
  rw [at_map (f := fun f => known.map fun g => entry known f g) h0 h1, List.length_map]
theorem rests_at {b : Nat} (h : b < sz.length) : at' (restsOf sz known) (b : Int) = (idx known (idA sz b) : Int) := at_rangeMap h
theorem entry_yes {f g : Arr} (G : GoodA sz known) (hf : f ∈ known) (hg : g ∈ known) (h : f.b = g.a) : 0 ≤ entry known f g ∧ entry known f g < known.length ∧ at' known (entry known f g) = comp f g := by
  have hm := G.cl f hf g hg h
  unfold entry
  rw [if_pos h]
  exact ⟨by omega, by have := idx_lt hm; omega, idx_at hm⟩
theorem entry_no {f g : Arr} (h : f.b ≠ g.a) : entry known f g = -1 := if_neg h
theorem good_table (G : GoodA sz known) : tableRight (endsOf known) (tableOf known) = true := by
  unfold tableRight
  rw [Bool.and_eq_true, decide_eq_true_eq, all_range, endsOf_len, tableOf_len]
  refine ⟨rfl, fun i hi => ?_⟩
  unfold rowRight
  rw [Bool.and_eq_true, decide_eq_true_eq, all_range, endsOf_len, row_len (by omega) (by omega)]
  refine ⟨rfl, fun j hj => ?_⟩
  rw [table_at (by omega) (by omega) (by omega) (by omega)]
  unfold madeRight
  rw [ends_at (i := (i : Int)) (by omega) (by omega), ends_at (i := (j : Int)) (by omega) (by omega)]
  dsimp only
  by_cases q : (at' known (i : Int)).b = (at' known (j : Int)).a
  · rw [if_neg (by rw [decide_eq_true q]; decide)]
    obtain ⟨e0, e1, e2⟩ := entry_yes G (at_mem (i := (i : Int)) (by omega) (by omega)) (at_mem (i := (j : Int)) (by omega) (by omega)) q
    rw [if_neg (by rw [Bool.or_eq_true, decide_eq_true_eq, decide_eq_true_eq, endsOf_len]; omega), eqT_iff, ends_at e0 e1, e2]
    rfl
  · rw [if_pos (by rw [decide_eq_false q]; decide), entry_no q]
    rfl
theorem good_ends (G : GoodA sz known) : endsRight (endsOf known) (sz.length : Int) = true := by
  unfold endsRight
  rw [List.all_eq_true]
  intro p hp
  obtain ⟨a, ha, rfl⟩ := List.mem_map.mp hp
  have h := G.ok a ha
  have := h.a0; have := h.a1; have := h.b0; have := h.b1
  unfold endBad
  simp only [Bool.not_eq_true', Bool.or_eq_false_iff, decide_eq_false_iff_not]
  omega
theorem good_rests (G : GoodA sz known) : restsRight (endsOf known) (restsOf sz known) (tableOf known) = true := by
  unfold restsRight
  rw [all_range, restsOf_len]
  intro b hb
  have hm := G.id b hb
  have hlt := idx_lt hm
  have hat := idx_at hm
  unfold restRight
  rw [Bool.and_eq_true, rests_at hb, all_range, endsOf_len]
  refine ⟨?_, fun a ha => ?_⟩
  · simp only [Bool.not_eq_true', Bool.or_eq_false_iff, decide_eq_false_iff_not, Bool.not_eq_false']
    refine ⟨by omega, by omega, ?_⟩
    rw [eqT_iff, ends_at (by omega) (by omega), hat]
    rfl
  · have hka := at_mem (xs := known) (i := (a : Int)) (by omega) (by omega)
    have hoa := G.ok _ hka
    unfold restArrow
    rw [ends_at (by omega) (by omega), table_at (by omega) (by omega) (by omega) (by omega), table_at (by omega) (by omega) (by omega) (by omega), hat]
    dsimp only
    have hself : idx known (at' known (a : Int)) = a := by rw [at_get ha, idx_get G.nd ha]
    rw [Bool.and_eq_true]
    constructor
    · by_cases q : (at' known (a : Int)).a = (b : Int)
      · have e : entry known (idA sz b) (at' known (a : Int)) = (a : Int) := by
          unfold entry
          rw [if_pos (by rw [q]; rfl), comp_id hoa q, hself]
        rw [e]
        simp
      · rw [decide_eq_false q]
        rfl
    · by_cases q : (at' known (a : Int)).b = (b : Int)
      · have e : entry known (at' known (a : Int)) (idA sz b) = (a : Int) := by
          unfold entry
          rw [if_pos (by rw [q]; rfl), id_comp hoa q, hself]
        rw [e]
        simp
      · rw [decide_eq_false q]
        rfl
theorem good_threes (G : GoodA sz known) : threesRight (endsOf known) (tableOf known) = true := by
  unfold threesRight
  rw [all_range, endsOf_len]
  intro i hi
  rw [all_range]
  intro j hj
  have mi := at_mem (xs := known) (i := (i : Int)) (by omega) (by omega)
  have mj := at_mem (xs := known) (i := (j : Int)) (by omega) (by omega)
  unfold twoRight
  rw [table_at (by omega) (by omega) (by omega) (by omega)]
  by_cases q : (at' known (i : Int)).b = (at' known (j : Int)).a
  · rw [Bool.or_eq_true, all_range]
    refine .inr fun k hk => ?_
    have mk := at_mem (xs := known) (i := (k : Int)) (by omega) (by omega)
    obtain ⟨e0, e1, e2⟩ := entry_yes G mi mj q
    unfold threeRight
    rw [table_at (i := (i : Int)) (j := (j : Int)) (by omega) (by omega) (by omega) (by omega), table_at (i := (j : Int)) (j := (k : Int)) (by omega) (by omega) (by omega) (by omega)]
    by_cases r : (at' known (j : Int)).b = (at' known (k : Int)).a
    · obtain ⟨f0, f1, f2⟩ := entry_yes G mj mk r
      rw [table_at e0 e1 (by omega) (by omega), table_at (by omega) (by omega) f0 f1, e2, f2]
      have : entry known (comp (at' known (i : Int)) (at' known (j : Int))) (at' known (k : Int)) = entry known (at' known (i : Int)) (comp (at' known (j : Int)) (at' known (k : Int))) := by
        unfold entry
        rw [if_pos (show (comp (at' known (i : Int)) (at' known (j : Int))).b = (at' known (k : Int)).a from r), if_pos (show (at' known (i : Int)).b = (comp (at' known (j : Int)) (at' known (k : Int))).a from q), comp_assoc (G.ok _ mi) (G.ok _ mj) q]
      rw [this]
      simp
    · rw [entry_no r]
      rfl
  · rw [entry_no q]
    rfl
theorem good_hall (G : GoodA sz known) : hallRight (endsOf known) (restsOf sz known) (tableOf known) = true := by
  obtain ⟨s1, s2, s3⟩ := all_small sz G.sm
  have c1 := ok_count G.sm G.nd G.ok
  have c2 : 1 ≤ known.length := List.length_pos_of_mem (G.id 0 (by omega))
  unfold hallRight
  rw [if_neg (by simp only [Bool.or_eq_true, decide_eq_true_eq, restsOf_len, endsOf_len]; omega), restsOf_len, good_ends G, good_table G, if_neg (by decide), good_rests G, good_threes G]
  rfl
end
end DL

/-! MathB: what the law draws. -/
namespace DL
open PySem L2
def cellV (ns : List Int) (k : Int) : Int := if k < (ns.length : Int) then at' ns k else ((if (0 : Int) < (ns.length : Int) then at' ns 0 else 0) % 65521 * 48271 + k * 30103) % 65521
def nextV (step : Int) : Int := (step * 48271 + 11) % 2147483647
def sizesOf (cell : Int) : List Int :=
  if cell % 4 = 0 then (List.range (1 + cell / 4 % 4).toNat).map (fun _ => (1 : Int)) else if cell % 4 = 1 then at' [[1, 2], [2, 1], [2, 2], [0, 2], [2], [1]] (cell / 4 % 6) else if cell % 4 = 2 then [3]
  else at' [[1, 1, 2], [0, 1, 2], [1, 2, 2], [2, 1, 0], [2, 2]] (cell / 4 % 5)
theorem sizesOf_mem (cell : Int) : sizesOf cell ∈ allSizes := by
  unfold sizesOf
  split
  · have h : (1 + cell / 4 % 4).toNat = 1 ∨ (1 + cell / 4 % 4).toNat = 2 ∨ (1 + cell / 4 % 4).toNat = 3 ∨ (1 + cell / 4 % 4).toNat = 4 := by omega
    rcases h with h | h | h | h <;> (rw [h]; decide)
  · split
    · have h : cell / 4 % 6 = 0 ∨ cell / 4 % 6 = 1 ∨ cell / 4 % 6 = 2 ∨ cell / 4 % 6 = 3 ∨ cell / 4 % 6 = 4 ∨ cell / 4 % 6 = 5 := by omega
      rcases h with h | h | h | h | h | h <;> (rw [h]; decide)
    · split
      · decide
      · have h : cell / 4 % 5 = 0 ∨ cell / 4 % 5 = 1 ∨ cell / 4 % 5 = 2 ∨ cell / 4 % 5 = 3 ∨ cell / 4 % 5 = 4 := by omega
        rcases h with h | h | h | h | h <;> (rw [h]; decide)
end DL
namespace DL
theorem all_three : ∀ sz ∈ allSizes, ∀ x ∈ sz, x = 3 → ∀ y ∈ sz, y = (3 : Int) := by decide +kernel
theorem _root_.List.nodup_map_of {α β : Type} {f : α → β} (h : ∀ a b, f a = f b → a = b) : ∀ {l : List α}, l.Nodup → (l.map f).Nodup
  | [], _ => List.nodup_nil
  | a :: l, n => by
    rw [List.nodup_cons] at n
    rw [List.map_cons, List.nodup_cons]
    refine ⟨fun z => ?_, List.nodup_map_of h n.2⟩
    obtain ⟨b, hb, e⟩ := List.mem_map.mp z
    exact n.1 (h _ _ e ▸ hb)
end DL

/-! MathC: arrows as keys; what closing keeps. -/
namespace DL
open PySem L2
theorem keys_map {α : Type} [Dat α] : ∀ xs : List α, D.keys (xs.map Dat.d) = xs.map keyT
  | [] => by rw [List.map_nil, D.keys]; rfl
  | x :: xs => by rw [List.map_cons, D.keys, keys_map xs]; rfl
theorem keyT_int (i : Int) : keyT i = .num i := by
  show D.key (.int i) = _
  rw [D.key]
theorem keys_ints (l : List Int) : D.keys (l.map Dat.d) = l.map .num := by
  rw [keys_map]
  exact List.map_congr_left fun x _ => keyT_int x
theorem keyT_arr (a : Arr) : keyT a = .tup [.num a.a, .num a.b, .tup (a.c.l.map .num)] := by
  show D.key (.tup [.int a.a, .int a.b, .tup (a.c.l.map Dat.d)]) = _
  rw [D.key, D.keys, D.keys, D.keys, D.keys, D.key, D.key, D.key, keys_ints]
theorem num_inj {l m : List Int} (h : l.map NestedKey.num = m.map NestedKey.num) : l = m := (List.map_inj_right fun _ _ z => NestedKey.num.inj z).mp h
theorem keyT_inj {a b : Arr} (h : keyT a = keyT b) : a = b := by
  rw [keyT_arr, keyT_arr] at h
  simp only [NestedKey.tup.injEq, List.cons.injEq, NestedKey.num.injEq, and_true] at h
  obtain ⟨h1, h2, h3⟩ := h
  obtain ⟨a1, a2, ⟨a3⟩⟩ := a
  obtain ⟨b1, b2, ⟨b3⟩⟩ := b
  dsimp only at h1 h2 h3
  rw [h1, h2, num_inj h3]
theorem kok_ints : ∀ l : List Int, D.koks (l.map Dat.d) = true
  | [] => by rw [List.map_nil, D.koks]
  | x :: l => by
    rw [List.map_cons, D.koks, kok_ints l]
    show (D.kok (.int x) && true) = true
    rw [D.kok]
    rfl
theorem depth_nums : ∀ l : List Int, NestedKey.depthAll (l.map .num) = 0
  | [] => by rw [List.map_nil, NestedKey.depthAll]
  | x :: l => by
    rw [List.map_cons, NestedKey.depthAll, NestedKey.depth, depth_nums l]
    rfl
theorem ktop_arr (a : Arr) : D.ktop (Dat.d a) = true := by
  show D.ktop (.tup [.int a.a, .int a.b, .tup (a.c.l.map Dat.d)]) = true
  unfold D.ktop
  rw [Bool.and_eq_true]
  refine ⟨?_, ?_⟩
  · rw [D.koks, D.koks, D.koks, D.koks, D.kok, D.kok, D.kok, kok_ints]
    rfl
  · rw [show (D.tup [.int a.a, .int a.b, .tup (a.c.l.map Dat.d)]).key = keyT a from rfl, keyT_arr, decide_eq_true_eq]
    simp [NestedKey.depth, NestedKey.depthAll, depth_nums]
/-- the dict of the arrows met -/
def metOf (ks : List Arr) : List (NestedKey × V) := ks.map fun a => (keyT a, V.bl true)
theorem met_has (ks : List Arr) (a : Arr) : (valV (metOf ks) (keyT a)).isSome = decide (a ∈ ks) := by
  unfold valV metOf
  rw [Option.isSome_map, Bool.eq_iff_iff, List.find?_isSome, decide_eq_true_eq]
  constructor
  · rintro ⟨p, hp, h⟩
    obtain ⟨b, hb, rfl⟩ := List.mem_map.mp hp
    have := keyT_inj (of_decide_eq_true h)
    exact this ▸ hb
  · intro h
    exact ⟨_, List.mem_map.mpr ⟨a, h, rfl⟩, decide_eq_true rfl⟩
theorem met_put {ks : List Arr} {a : Arr} (h : a ∉ ks) : putK (metOf ks) (keyT a) (.bl true) = metOf (ks ++ [a]) := by
  have e : valV (metOf ks) (keyT a) = none := by
    have := met_has ks a
    rw [decide_eq_false h] at this
    exact Option.isSome_eq_false_iff.mp this |> Option.isNone_iff_eq_none.mp
  rw [putK_new _ e]
  unfold metOf
  rw [List.map_append]
  rfl
theorem met_len (ks : List Arr) : (metOf ks).length = ks.length := List.length_map ..
/-! ### closing -/
def Has (ks : List Arr) (f g : Arr) : Prop := f.b = g.a → comp f g ∈ ks
theorem Has.more {ks ks' : List Arr} {f g : Arr} (h : Has ks f g) (s : ∀ a ∈ ks, a ∈ ks') : Has ks' f g := fun e => s _ (h e)
/-- ks' is ks and more, all of them arrows, no two alike -/
structure Ext (sz : List Int) (ks ks' : List Arr) : Prop where
  nd : ks'.Nodup
  ok : ∀ a ∈ ks', AOk sz a
  ex : ∃ more, ks' = ks ++ more
theorem Ext.sub {sz : List Int} {ks ks' : List Arr} (e : Ext sz ks ks') : ∀ a ∈ ks, a ∈ ks' := fun a h => by
  obtain ⟨m, rfl⟩ := e.ex
  exact List.mem_append_left _ h
theorem Ext.get {sz : List Int} {ks ks' : List Arr} (e : Ext sz ks ks') {i : Nat} {a : Arr} (h : ks[i]? = some a) : ks'[i]? = some a := by
  obtain ⟨m, rfl⟩ := e.ex
  rw [List.getElem?_append_left (List.getElem?_eq_some_iff.mp h).1]
  exact h
theorem Ext.len {sz : List Int} {ks ks' : List Arr} (e : Ext sz ks ks') : ks.length ≤ ks'.length := by
  obtain ⟨m, rfl⟩ := e.ex
  rw [List.length_append]
  omega
theorem Ext.refl {sz : List Int} {ks : List Arr} (h1 : ks.Nodup) (h2 : ∀ a ∈ ks, AOk sz a) : Ext sz ks ks := ⟨h1, h2, [], (List.append_nil _).symm⟩
theorem Ext.trans {sz : List Int} {a b c : List Arr} (x : Ext sz a b) (y : Ext sz b c) : Ext sz a c := ⟨y.nd, y.ok, by
  obtain ⟨m, rfl⟩ := x.ex
  obtain ⟨n, rfl⟩ := y.ex
  exact ⟨m ++ n, List.append_assoc ..⟩⟩
theorem Ext.snoc {sz : List Int} {ks ks' : List Arr} (e : Ext sz ks ks') {a : Arr} (h : a ∉ ks') (o : AOk sz a) : Ext sz ks (ks' ++ [a]) := by
  refine ⟨?_, fun b hb => ?_, ?_⟩
  · rw [List.nodup_append]
    refine ⟨e.nd, by simp, fun x hx y hy => ?_⟩
    rw [List.mem_singleton] at hy
    rw [hy]
    exact fun q => h (q ▸ hx)
  · rcases List.mem_append.mp hb with q | q
    · exact e.ok b q
    · rw [List.mem_singleton.mp q]; exact o
  · obtain ⟨m, rfl⟩ := e.ex
    exact ⟨m ++ [a], List.append_assoc ..⟩
/-- ahead of the turn «at» of the outer loop -/
structure WkC (sz : List Int) (k0 ks : List Arr) (at_ : Nat) : Prop where
  ex : Ext sz k0 ks
  le : at_ ≤ ks.length
  has : ∀ (i j : Nat) f g, i < at_ → j < at_ → ks[i]? = some f → ks[j]? = some g → Has ks f g
theorem WkC.step {sz : List Int} {k0 ks ks' : List Arr} {n : Nat} (w : WkC sz k0 ks n) (hlt : n < ks.length) (e : Ext sz ks ks') {f : Arr} (hf : ks[n]? = some f) (h : ∀ (j : Nat) g, j < ks.length → ks[j]? = some g → Has ks' f g ∧ Has ks' g f) : WkC sz k0 ks' (n + 1) := by
  refine ⟨w.ex.trans e, Nat.le_trans hlt e.len, fun i j a b hi hj ha hb => ?_⟩
  have old : ∀ (i : Nat) a, i < n + 1 → ks'[i]? = some a → ks[i]? = some a := fun i a hi ha => by
    have q : ks[i]? = some ks[i] := List.getElem?_eq_getElem (by omega)
    rw [e.get q] at ha
    cases ha
    exact q
  have ha' := old i a hi ha
  have hb' := old j b hj hb
  by_cases q : i = n
  · rw [q, hf] at ha'
    cases ha'
    exact (h j b (by omega) hb').1
  · by_cases r : j = n
    · rw [r, hf] at hb'
      cases hb'
      exact (h i a (by omega) ha').2
    · exact (w.has i j a b (by omega) (by omega) ha' hb').more e.sub
theorem WkC.done {sz : List Int} {k0 ks : List Arr} {n : Nat} (w : WkC sz k0 ks n) (h : ks.length ≤ n) : ∀ f ∈ ks, ∀ g ∈ ks, f.b = g.a → comp f g ∈ ks := fun f hf g hg e => by
  obtain ⟨i, hi, e1⟩ := List.getElem_of_mem hf
  obtain ⟨j, hj, e2⟩ := List.getElem_of_mem hg
  exact w.has i j f g (by omega) (by omega) (by rw [List.getElem?_eq_getElem hi, e1]) (by rw [List.getElem?_eq_getElem hj, e2]) e
end DL

/-! MathD: the dict of places; the parts of a hall; the hall turned round. -/
namespace DL
open PySem L2
def placeOf (known : List Arr) (n : Nat) : List (NestedKey × V) := (List.range n).map fun (i : Nat) => (keyT (at' known (i : Int)), V.int (i : Int))
theorem place_zero (known : List Arr) : placeOf known 0 = [] := rfl
theorem place_len (known : List Arr) (n : Nat) : (placeOf known n).length = n := by unfold placeOf; rw [List.length_map, List.length_range]
theorem place_succ (known : List Arr) (n : Nat) : placeOf known (n + 1) = placeOf known n ++ [(keyT (at' known (n : Int)), V.int (n : Int))] := by
  unfold placeOf
  rw [List.range_succ, List.map_append]
  rfl
theorem place_none {known : List Arr} (nd : known.Nodup) {n : Nat} (h : n < known.length) : valV (placeOf known n) (keyT (at' known (n : Int))) = none := by
  unfold valV
  rw [Option.map_eq_none_iff, List.find?_eq_none]
  intro p hp
  unfold placeOf at hp
  obtain ⟨i, hi, rfl⟩ := List.mem_map.mp hp
  have hi' := List.mem_range.mp hi
  intro q
  have e := keyT_inj (of_decide_eq_true q)
  rw [at_get (by omega), at_get h] at e
  have := (List.getElem_inj nd).mp e
  omega
theorem place_put {known : List Arr} (nd : known.Nodup) {n : Nat} (h : n < known.length) : putK (placeOf known n) (keyT (at' known (n : Int))) (.int (n : Int)) = placeOf known (n + 1) := by
  rw [putK_new _ (place_none nd h), place_succ]
theorem place_at {known : List Arr} (nd : known.Nodup) : ∀ {n : Nat}, n ≤ known.length → ∀ {j : Nat}, j < n → valV (placeOf known n) (keyT (at' known (j : Int))) = some (.int (j : Int))
  | 0, _, _, h => absurd h (Nat.not_lt_zero _)
  | n + 1, hn, j, h => by
    have hnone := place_none nd (n := n) (by omega)
    rw [place_succ]
    unfold valV at hnone ⊢
    rw [List.find?_append]
    by_cases q : j = n
    · subst q
      rw [Option.map_eq_none_iff] at hnone
      rw [hnone]
      simp
    · have ih := place_at nd (n := n) (by omega) (j := j) (by omega)
      unfold valV at ih
      rw [Option.map_eq_some_iff] at ih
      obtain ⟨p, e1, e2⟩ := ih
      rw [e1]
      simp [e2]
theorem place_get {known : List Arr} (nd : known.Nodup) {a : Arr} (h : a ∈ known) : valV (placeOf known known.length) (keyT a) = some (.int (idx known a : Int)) := by
  have := place_at nd (Nat.le_refl _) (idx_lt h)
  rw [idx_at h] at this
  exact this
/-! ### parts -/
abbrev PartsT := Five EndsT (List Int) TableT (List Arr) (List Int)
def mkParts (sz : List Int) (known : List Arr) : PartsT := ⟨endsOf known, restsOf sz known, tableOf known, known, sz⟩
def hallOf (sz : List Int) (known : List Arr) : HallT := ⟨endsOf known, restsOf sz known, tableOf known⟩
def HallOk (h : HallT) : Prop := hallRight h.e h.r h.t = true
theorem hallOf_ok {sz : List Int} {known : List Arr} (G : GoodA sz known) : HallOk (hallOf sz known) := good_hall G
end DL

/-! MathT: a hall turned round is a hall. -/
namespace DL
def turnT (n : Nat) (t : TableT) : TableT := (List.range n).map fun (j : Nat) => (List.range n).map fun (k : Nat) => at' (at' t (k : Int)) (j : Int)
def swapE (e : EndsT) : EndsT := e.map fun p => (p.2, p.1)
def turnH (h : HallT) : HallT := ⟨swapE h.e, h.r, turnT h.e.length h.t⟩
theorem turnT_row {n : Nat} {t : TableT} {i : Int} (h0 : 0 ≤ i) (h1 : i < n) : at' (turnT n t) i = (List.range n).map fun (k : Nat) => at' (at' t (k : Int)) i := by
  obtain ⟨a, rfl⟩ := Int.eq_ofNat_of_zero_le h0
  exact at_rangeMap (f := fun (j : Nat) => (List.range n).map fun (k : Nat) => at' (at' t (k : Int)) (j : Int)) (by omega)
theorem turnT_at {n : Nat} {t : TableT} {i j : Int} (h0 : 0 ≤ i) (h1 : i < n) (h2 : 0 ≤ j) (h3 : j < n) : at' (at' (turnT n t) i) j = at' (at' t j) i := by
  rw [turnT_row h0 h1]
  obtain ⟨b, rfl⟩ := Int.eq_ofNat_of_zero_le h2
  exact at_rangeMap (f := fun (k : Nat) => at' (at' t (k : Int)) i) (by omega)
theorem swapE_len {e : EndsT} : (swapE e).length = e.length := List.length_map ..
theorem swapE_at {e : EndsT} {i : Int} (h0 : 0 ≤ i) (h1 : i < e.length) : at' (swapE e) i = ((at' e i).2, (at' e i).1) := at_map (f := fun p : Int × Int => (p.2, p.1)) h0 h1
theorem turnT_len {n : Nat} {t : TableT} : (turnT n t).length = n := by unfold turnT; rw [List.length_map, List.length_range]
theorem made_mk {e : EndsT} {one other made : Int} (h : ((at' e one).2 ≠ (at' e other).1 ∧ made = -1) ∨ ((at' e one).2 = (at' e other).1 ∧ 0 ≤ made ∧ made < e.length ∧ at' e made = ((at' e one).1, (at' e other).2))) : madeRight e one other made = true := by
  unfold madeRight
  rcases h with ⟨h1, h2⟩ | ⟨h1, h2, h3, h4⟩
  · rw [if_pos (by rw [decide_eq_false h1]; decide), decide_eq_true_eq]
    exact h2
  · rw [if_neg (by rw [decide_eq_true h1]; decide), if_neg (by rw [Bool.or_eq_true, decide_eq_true_eq, decide_eq_true_eq]; omega), eqT_iff]
    exact h4
section
variable {e : EndsT} {r : List Int} {t : TableT}
theorem turn_table (h : tableRight e t = true) : tableRight (swapE e) (turnT e.length t) = true := by
  unfold tableRight
  rw [Bool.and_eq_true, decide_eq_true_eq, all_range, swapE_len, turnT_len]
  refine ⟨rfl, fun i hi => ?_⟩
  unfold rowRight
  rw [Bool.and_eq_true, decide_eq_true_eq, all_range, swapE_len, turnT_row (by omega) (by omega), List.length_map, List.length_range]
  refine ⟨rfl, fun j hj => ?_⟩
  rw [← turnT_row (n := e.length) (t := t) (i := (i : Int)) (by omega) (by omega), turnT_at (by omega) (by omega) (by omega) (by omega)]
  apply made_mk
  rw [swapE_at (i := (i : Int)) (by omega) (by omega), swapE_at (i := (j : Int)) (by omega) (by omega), swapE_len]
  rcases made_of (tr_made h (i := (j : Int)) (j := (i : Int)) (by omega) (by omega) (by omega) (by omega)) with ⟨h1, h2⟩ | ⟨h1, h2, h3, h4⟩
  · exact .inl ⟨fun q => h1 q.symm, h2⟩
  · refine .inr ⟨h1.symm, h2, h3, ?_⟩
    rw [swapE_at h2 h3, h4]
theorem turn_ends {n : Int} (h : endsRight e n = true) : endsRight (swapE e) n = true := by
  unfold endsRight at h ⊢
  rw [List.all_eq_true] at h ⊢
  intro p hp
  obtain ⟨q, hq, rfl⟩ := List.mem_map.mp hp
  have := h q hq
  unfold endBad at this ⊢
  simp only [Bool.not_eq_true', Bool.or_eq_false_iff, decide_eq_false_iff_not] at this ⊢
  omega
theorem turn_rests (ht : tableRight e t = true) (h : restsRight e r t = true) : restsRight (swapE e) r (turnT e.length t) = true := by
  unfold restsRight at h ⊢
  rw [all_range] at h ⊢
  intro b hb
  have h' := h b hb
  unfold restRight at h' ⊢
  rw [Bool.and_eq_true, all_range] at h' ⊢
  obtain ⟨h1, h2⟩ := h'
  simp only [Bool.not_eq_true', Bool.or_eq_false_iff, decide_eq_false_iff_not, Bool.not_eq_false'] at h1
  obtain ⟨h3, h4, h5⟩ := h1
  rw [eqT_iff] at h5
  refine ⟨?_, fun a ha => ?_⟩
  · simp only [Bool.not_eq_true', Bool.or_eq_false_iff, decide_eq_false_iff_not, Bool.not_eq_false', swapE_len]
    refine ⟨h3, h4, ?_⟩
    rw [eqT_iff, swapE_at (by omega) (by omega), h5]
  · rw [swapE_len] at ha
    have h6 := h2 a ha
    unfold restArrow at h6 ⊢
    rw [Bool.and_comm, swapE_at (by omega) (by omega), turnT_at (by omega) (by omega) (by omega) (by omega), turnT_at (by omega) (by omega) (by omega) (by omega)]
    exact h6
theorem turn_threes (ht : tableRight e t = true) (h : threesRight e t = true) : threesRight (swapE e) (turnT e.length t) = true := by
  unfold threesRight at h ⊢
  rw [all_range] at h ⊢
  rw [swapE_len]
  intro i hi
  rw [all_range]
  intro j hj
  unfold twoRight
  rw [Bool.or_eq_true, all_range, turnT_at (by omega) (by omega) (by omega) (by omega)]
  by_cases q : 0 ≤ at' (at' t (j : Int)) (i : Int)
  · refine .inr fun k hk => ?_
    unfold threeRight
    have q1 := tr_lt ht (i := (j : Int)) (j := (i : Int)) (by omega) (by omega) (by omega) (by omega)
    rw [turnT_at (i := (j : Int)) (j := (k : Int)) (by omega) (by omega) (by omega) (by omega), turnT_at (i := (i : Int)) (j := (j : Int)) (by omega) (by omega) (by omega) (by omega), turnT_at q (by omega) (by omega) (by omega)]
    by_cases w : 0 ≤ at' (at' t (k : Int)) (j : Int)
    · have w1 := tr_lt ht (i := (k : Int)) (j := (j : Int)) (by omega) (by omega) (by omega) (by omega)
      rw [turnT_at (i := (i : Int)) (by omega) (by omega) w (by omega)]
      have hkj := h k hk
      rw [all_range] at hkj
      have h2 := hkj j hj
      unfold twoRight at h2
      rw [decide_eq_true w, Bool.not_true, Bool.false_or, all_range] at h2
      have h3 := h2 i hi
      unfold threeRight at h3
      rw [decide_eq_true q, Bool.true_and, Bool.not_not, decide_eq_true_eq] at h3
      rw [decide_eq_true h3.symm]
      simp
    · rw [decide_eq_false w]
      rfl
  · exact .inl (by rw [decide_eq_false q]; rfl)
theorem turn_hall {h : HallT} (H : HallOk h) : HallOk (turnH h) := by
  unfold HallOk at H ⊢
  obtain ⟨h1, h2, h3, h4, h5⟩ := hall_parts H
  unfold hallRight turnH
  dsimp only
  rw [if_neg (by simp only [Bool.or_eq_true, decide_eq_true_eq, swapE_len]; omega), turn_ends h2, turn_table h3, if_neg (by decide), turn_rests h3 h4, turn_threes h3 h5]
  rfl
theorem swap_swap : swapE (swapE e) = e := by
  unfold swapE
  rw [List.map_map]
  exact List.map_id' e
theorem turn_turn (h : tableRight e t = true) : turnT e.length (turnT e.length t) = t := by
  have hl := tr_len h
  refine List.ext_getElem (by rw [turnT_len, hl]) fun i h1 h2 => ?_
  rw [turnT_len] at h1
  have e1 := at_get (xs := turnT e.length (turnT e.length t)) (i := i) (by rw [turnT_len]; exact h1)
  rw [← e1, ← at_get h2, turnT_row (by omega) (by omega)]
  have hr := tr_row h (i := (i : Int)) (by omega) (by omega)
  refine List.ext_getElem (by rw [List.length_map, List.length_range, hr]) fun j h3 h4 => ?_
  rw [List.length_map, List.length_range] at h3
  rw [List.getElem_map, List.getElem_range, turnT_at (by omega) (by omega) (by omega) (by omega), at_get h4]
theorem turnH_turnH {h : HallT} (H : HallOk h) : turnH (turnH h) = h := by
  obtain ⟨h1, h2, h3, h4, h5⟩ := hall_parts H
  obtain ⟨e, r, t⟩ := h
  unfold turnH
  dsimp only at h3 ⊢
  rw [swap_swap, swapE_len, turn_turn h3]
end
end DL

/-! MathV: pictures and views. -/
namespace DL
abbrev Tie := Tri Int Int Int
/-- the arrows from b to o -/
def betw (e : EndsT) (b o : Int) : List Int := ((List.range e.length).filter fun (a : Nat) => eqT (at' e (a : Int)) (b, o)).map fun (a : Nat) => (a : Int)
theorem mem_betw {e : EndsT} {b o x : Int} : x ∈ betw e b o ↔ 0 ≤ x ∧ x < e.length ∧ at' e x = (b, o) := by
  unfold betw
  rw [List.mem_map]
  constructor
  · rintro ⟨a, ha, rfl⟩
    rw [List.mem_filter, List.mem_range, eqT_iff] at ha
    exact ⟨by omega, by omega, ha.2⟩
  · rintro ⟨h0, h1, h2⟩
    refine ⟨x.toNat, ?_, by omega⟩
    rw [List.mem_filter, List.mem_range, eqT_iff, Int.toNat_of_nonneg h0]
    exact ⟨by omega, h2⟩
theorem betw_len {e : EndsT} {b o : Int} : (betw e b o).length ≤ e.length := by
  unfold betw
  rw [List.length_map]
  refine Nat.le_trans (List.length_filter_le ..) ?_
  rw [List.length_range]
  exact Nat.le_refl _
def tieRight (e : EndsT) (places : List Int) (t : Tie) : Bool :=
  if (decide (t.a < 0) || (decide ((places.length : Int) ≤ t.a) || (decide (t.b < 0) || decide ((places.length : Int) ≤ t.b)))) = true then false else if (decide (t.c < 0) || decide ((e.length : Int) ≤ t.c)) = true then false else eqT (at' e t.c) (at' places t.a, at' places t.b)
theorem tie_iff {e : EndsT} {places : List Int} {t : Tie} : tieRight e places t = true ↔ (0 ≤ t.a ∧ t.a < places.length) ∧ (0 ≤ t.b ∧ t.b < places.length) ∧ (0 ≤ t.c ∧ t.c < e.length) ∧ at' e t.c = (at' places t.a, at' places t.b) := by
  unfold tieRight
  constructor
  · intro h
    split at h
    · cases h
    · rename_i h1
      split at h
      · cases h
      · rename_i h2
        simp only [Bool.or_eq_true, decide_eq_true_eq] at h1 h2
        rw [eqT_iff] at h
        exact ⟨by omega, by omega, by omega, h⟩
  · rintro ⟨h1, h2, h3, h4⟩
    rw [if_neg (by simp only [Bool.or_eq_true, decide_eq_true_eq]; omega), if_neg (by simp only [Bool.or_eq_true, decide_eq_true_eq]; omega), eqT_iff]
    exact h4
structure PicOk (h : HallT) (places : List Int) (ties : List Tie) : Prop where
  lp : places.length ≤ 3
  lt : ties.length ≤ 4
  bx : ∀ b ∈ places, 0 ≤ b ∧ b < h.r.length
  ti : ∀ t ∈ ties, tieRight h.e places t = true
def fitsR (t : TableT) (row : List Int) (tie : Tie) : Bool := decide (at' (at' t (at' row tie.a)) tie.c = at' row tie.b)
def fitsB (t : TableT) (ties : List Tie) (row : List Int) : Bool := ties.all (fitsR t row)
def stepRows (e : EndsT) (box : Int) (found : List (List Int)) (place : Int) : List (List Int) := (found.map fun row => (betw e box place).map fun a => row ++ [a]).flatten
def rowsOf (e : EndsT) (box : Int) (places : List Int) : List (List Int) := places.foldl (stepRows e box) [[]]
def viewsOf (h : HallT) (places : List Int) (ties : List Tie) (box : Int) : List (List Int) := (rowsOf h.e box places).filter (fitsB h.t ties)
theorem rowsOf_snoc (e : EndsT) (box : Int) (places : List Int) (p : Int) : rowsOf e box (places ++ [p]) = stepRows e box (rowsOf e box places) p := by
  unfold rowsOf
  rw [List.foldl_append]
  rfl
theorem flat_len {α β : Type} {f : α → List β} {m : Nat} : ∀ {l : List α}, (∀ x ∈ l, (f x).length ≤ m) → (l.map f).flatten.length ≤ l.length * m
  | [], _ => by simp
  | x :: l, h => by
    have h1 := h x List.mem_cons_self
    have ih := flat_len (f := f) (m := m) (l := l) fun y hy => h y (List.mem_cons_of_mem _ hy)
    rw [List.map_cons, List.flatten_cons, List.length_append, List.length_cons, Nat.succ_mul]
    omega
theorem stepRows_len {e : EndsT} {box p : Int} {found : List (List Int)} : (stepRows e box found p).length ≤ found.length * e.length := flat_len fun x _ => by
  rw [List.length_map]
  exact betw_len
/-- a row holds for each place an arrow from the box to it -/
def RowOk (e : EndsT) (box : Int) (places row : List Int) : Prop := row.length = places.length ∧ ∀ i : Int, 0 ≤ i → i < places.length → at' row i ∈ betw e box (at' places i)
theorem at_snoc_lt {α : Type} [Dat α] {l : List α} {x : α} {i : Int} (h0 : 0 ≤ i) (h1 : i < l.length) : at' (l ++ [x]) i = at' l i := by
  obtain ⟨j, rfl⟩ := Int.eq_ofNat_of_zero_le h0
  have hj : j < l.length := by omega
  show at' (l ++ [x]) ((j : Nat) : Int) = at' l ((j : Nat) : Int)
  rw [at_get (by rw [List.length_append]; exact Nat.lt_of_lt_of_le hj (Nat.le_add_right _ _)), at_get hj, List.getElem_append_left hj]
theorem at_snoc_eq {α : Type} [Dat α] {l : List α} {x : α} : at' (l ++ [x]) (l.length : Int) = x := by
  rw [at_get (by rw [List.length_append, List.length_singleton]; omega)]
  simp
theorem RowOk.snoc {e : EndsT} {box p a : Int} {places row : List Int} (h : RowOk e box places row) (ha : a ∈ betw e box p) : RowOk e box (places ++ [p]) (row ++ [a]) := by
  refine ⟨by rw [List.length_append, List.length_append, h.1]; rfl, fun i h0 h1 => ?_⟩
  rw [List.length_append, List.length_singleton] at h1
  by_cases q : i < places.length
  · have hr : i < row.length := by rw [h.1]; exact q
    rw [at_snoc_lt (l := places) h0 q, at_snoc_lt (l := row) h0 hr]
    exact h.2 i h0 q
  · have e1 : i = (places.length : Int) := by omega
    subst e1
    rw [at_snoc_eq, ← h.1, at_snoc_eq]
    exact ha
theorem rows_ok {e : EndsT} {box : Int} : ∀ (n : Nat) {places : List Int}, places.length = n → ∀ row ∈ rowsOf e box places, RowOk e box places row
  | 0, places, h, row, hr => by
    rw [List.length_eq_zero_iff] at h
    subst h
    have hr' : row ∈ [([] : List Int)] := hr
    rw [List.mem_singleton] at hr'
    rw [hr']
    exact ⟨rfl, fun i h0 h1 => by have : i < (0 : Int) := h1; omega⟩
  | n + 1, places, h, row, hr => by
    have hne : places ≠ [] := fun z => by rw [z] at h; cases h
    have hs := (List.dropLast_concat_getLast hne).symm
    rw [hs] at hr ⊢
    rw [rowsOf_snoc] at hr
    unfold stepRows at hr
    obtain ⟨l, hl, hrl⟩ := List.mem_flatten.mp hr
    obtain ⟨r0, hr0, rfl⟩ := List.mem_map.mp hl
    obtain ⟨a, ha, rfl⟩ := List.mem_map.mp hrl
    exact (rows_ok n (by rw [List.length_dropLast, h]; rfl) r0 hr0).snoc ha
theorem rows_len {e : EndsT} {box : Int} (he : e.length ≤ 40) : ∀ (n : Nat) {places : List Int}, places.length = n → (rowsOf e box places).length ≤ 40 ^ n
  | 0, places, h => by
    rw [List.length_eq_zero_iff] at h
    subst h
    exact Nat.le_refl 1
  | n + 1, places, h => by
    have hne : places ≠ [] := fun z => by rw [z] at h; cases h
    have hs := (List.dropLast_concat_getLast hne).symm
    rw [hs, rowsOf_snoc]
    refine Nat.le_trans stepRows_len ?_
    rw [Nat.pow_succ]
    exact Nat.mul_le_mul (rows_len he n (by rw [List.length_dropLast, h]; rfl)) he
theorem rows_size {e : EndsT} {box : Int} (he : e.length ≤ 40) {places : List Int} (hp : places.length ≤ 3) : (rowsOf e box places).length ≤ 64000 :=
  Nat.le_trans (rows_len he _ rfl) (Nat.le_trans (Nat.pow_le_pow_right (by decide) hp) (by decide))
theorem RowOk.at {e : EndsT} {box : Int} {places row : List Int} (h : RowOk e box places row) {i : Int} (h0 : 0 ≤ i) (h1 : i < places.length) : 0 ≤ at' row i ∧ at' row i < e.length := by
  have := mem_betw.mp (h.2 i h0 h1)
  exact ⟨this.1, this.2.1⟩
end DL

/-! MathW: best views. -/
namespace DL
open PySem L2
def thruRow (t : TableT) (f : Int) (arrows : List Int) : List Int := arrows.map fun a => at' (at' t f) a
def madeOf (h : HallT) (other box : Int) (arrows : List Int) : List (List Int) := (betw h.e other box).map fun f => thruRow h.t f arrows
def isBestB (h : HallT) (known : List (List (List Int))) (box : Nat) (arrows : List Int) : Bool := (List.range known.length).all fun (o : Nat) => decide ((madeOf h (o : Int) (box : Int) arrows).Nodup) && decide ((madeOf h (o : Int) (box : Int) arrows).length = (at' known (o : Int)).length)
def isBestL (h : HallT) (known : List (List (List Int))) (box : Nat) (arrows : List Int) : Bool := (List.range known.length).all fun (o : Nat) => decide ((madeOf h (o : Int) (box : Int) arrows).length = (at' known (o : Int)).length) && (at' known (o : Int)).all fun v => decide (((countT v (madeOf h (o : Int) (box : Int) arrows) : Nat) : Int) = 1)
def knownOf (h : HallT) (places : List Int) (ties : List Tie) : List (List (List Int)) := (List.range h.r.length).map fun (b : Nat) => viewsOf h places ties (b : Int)
def allP (xss : List (List (List Int))) (p : Nat → List Int → Bool) : List (Int × List Int) := ((List.range xss.length).map fun (i : Nat) => ((at' xss (i : Int)).filter (p i)).map fun y => ((i : Int), y)).flatten
def bestsOf (h : HallT) (places : List Int) (ties : List Tie) : List (Int × List Int) := allP (knownOf h places ties) (isBestB h (knownOf h places ties))
/-! the dict of rows met -/
def rowsDict (l : List (List Int)) : List (NestedKey × V) := l.foldl (fun kvs r => putK kvs (keyT (Tup.mk r)) (.bl true)) []
theorem rowsDict_snoc (l : List (List Int)) (r : List Int) : rowsDict (l ++ [r]) = putK (rowsDict l) (keyT (Tup.mk r)) (.bl true) := by
  unfold rowsDict
  rw [List.foldl_append]
  rfl
theorem keyT_tup (r : List Int) : keyT (Tup.mk r) = .tup (r.map .num) := by
  show D.key (.tup (r.map Dat.d)) = _
  rw [D.key, keys_ints]
theorem tup_inj {r s : List Int} (h : keyT (Tup.mk r) = keyT (Tup.mk s)) : r = s := by
  rw [keyT_tup, keyT_tup] at h
  simp only [NestedKey.tup.injEq] at h
  exact num_inj h
theorem ktop_tup (r : List Int) : D.ktop (Dat.d (Tup.mk r)) = true := by
  show D.ktop (.tup (r.map Dat.d)) = true
  unfold D.ktop
  rw [Bool.and_eq_true]
  refine ⟨kok_ints r, ?_⟩
  rw [show (D.tup (r.map Dat.d)).key = keyT (Tup.mk r) from rfl, keyT_tup, decide_eq_true_eq]
  simp [NestedKey.depth, depth_nums]
theorem len_mapSnd (k : NestedKey) (v : V) : ∀ kvs : List (NestedKey × V), (kvs.map fun kv => if kv.1 = k then (kv.1, v) else kv).length = kvs.length := fun _ => List.length_map ..
theorem snoc_cases {α : Type} (l : List α) : l = [] ∨ ∃ i x, l = i ++ [x] := by
  by_cases h : l = []
  · exact .inl h
  · exact .inr ⟨_, _, (List.dropLast_concat_getLast h).symm⟩
theorem rowsDict_ok : ∀ (n : Nat) (l : List (List Int)), l.length = n → (∀ r, (valV (rowsDict l) (keyT (Tup.mk r))).isSome = decide (r ∈ l)) ∧ (rowsDict l).length ≤ l.length ∧ ((rowsDict l).length = l.length ↔ l.Nodup)
  | n, l, hn => by
    rcases snoc_cases l with rfl | ⟨i, x, rfl⟩
    · exact ⟨fun r => rfl, Nat.le_refl 0, ⟨fun _ => List.nodup_nil, fun _ => rfl⟩⟩
    · cases n with
      | zero => simp at hn
      | succ n =>
        obtain ⟨h1, h2, h3⟩ := rowsDict_ok n i (by simpa using hn)
        rw [rowsDict_snoc]
        refine ⟨fun r => ?_, ?_⟩
        · rw [valV_put]
          by_cases e : keyT (Tup.mk r) = keyT (Tup.mk x)
          · rw [if_pos e, tup_inj e]
            simp
          · rw [if_neg e, h1 r]
            have : r ≠ x := fun w => e (by rw [w])
            simp [this]
        · have hx := h1 x
          by_cases m : x ∈ i
          · have hl : (putK (rowsDict i) (keyT (Tup.mk x)) (.bl true)).length = (rowsDict i).length := by
              unfold putK
              rw [if_pos (by rw [valV_any, hx, decide_eq_true m]), List.length_map]
            rw [hl, List.length_append, List.length_singleton]
            refine ⟨by omega, ⟨fun q => by omega, fun q => ?_⟩⟩
            rw [List.nodup_append] at q
            exact absurd rfl (q.2.2 x m x (List.mem_singleton.mpr rfl))
          · rw [decide_eq_false m] at hx
            rw [putK_new _ (by simpa using hx), List.length_append, List.length_append, List.length_singleton, List.length_singleton]
            refine ⟨by omega, ⟨fun q => ?_, fun q => ?_⟩⟩
            · rw [List.nodup_append]
              refine ⟨h3.mp (by omega), by simp, fun a ha b hb => ?_⟩
              rw [List.mem_singleton.mp hb]
              exact fun e => m (e ▸ ha)
            · rw [List.nodup_append] at q
              rw [h3.mpr q.1]
theorem rowsDict_le (l : List (List Int)) : (rowsDict l).length ≤ l.length := (rowsDict_ok _ l rfl).2.1
theorem rowsDict_nodup (l : List (List Int)) : (rowsDict l).length = l.length ↔ l.Nodup := (rowsDict_ok _ l rfl).2.2
/-! views through arrows -/
theorem rows_all {e : EndsT} {box : Int} : ∀ (n : Nat) {places row : List Int}, places.length = n → RowOk e box places row → row ∈ rowsOf e box places
  | n, places, row, hn, h => by
    rcases snoc_cases places with rfl | ⟨ps, p, rfl⟩
    · have : row = [] := List.length_eq_zero_iff.mp h.1
      rw [this]
      exact List.mem_singleton.mpr rfl
    · cases n with
      | zero => simp at hn
      | succ n =>
        rcases snoc_cases row with rfl | ⟨r0, a, rfl⟩
        · have := h.1
          simp at this
        · have hl : r0.length = ps.length := by
            have := h.1
            simpa using this
          rw [rowsOf_snoc]
          unfold stepRows
          rw [List.mem_flatten]
          refine ⟨_, List.mem_map.mpr ⟨r0, rows_all n (by simpa using hn) ⟨hl, fun i h0 h1 => ?_⟩, rfl⟩, List.mem_map.mpr ⟨a, ?_, rfl⟩⟩
          · have q := h.2 i h0 (by rw [List.length_append]; omega)
            rw [at_snoc_lt (l := r0) h0 (by rw [hl]; exact h1), at_snoc_lt (l := ps) h0 h1] at q
            exact q
          · have q := h.2 (ps.length : Int) (by omega) (by rw [List.length_append, List.length_singleton]; omega)
            rw [at_snoc_eq, ← hl, at_snoc_eq] at q
            exact q
theorem threes_of {e : EndsT} {t : TableT} (h : threesRight e t = true) {i j k : Int} (i0 : 0 ≤ i) (i1 : i < e.length) (j0 : 0 ≤ j) (j1 : j < e.length) (k0 : 0 ≤ k) (k1 : k < e.length) (h1 : 0 ≤ at' (at' t i) j) (h2 : 0 ≤ at' (at' t j) k) : at' (at' t (at' (at' t i) j)) k = at' (at' t i) (at' (at' t j) k) := by
  unfold threesRight at h
  obtain ⟨a, rfl⟩ := Int.eq_ofNat_of_zero_le i0
  obtain ⟨b, rfl⟩ := Int.eq_ofNat_of_zero_le j0
  obtain ⟨d, rfl⟩ := Int.eq_ofNat_of_zero_le k0
  have q := DL.all_range.mp (DL.all_range.mp h a (by omega)) b (by omega)
  unfold twoRight at q
  rw [decide_eq_true (show 0 ≤ at' (at' t (a : Int)) (b : Int) from h1), Bool.not_true, Bool.false_or] at q
  have w := DL.all_range.mp q d (by omega)
  unfold threeRight at w
  rw [decide_eq_true (show 0 ≤ at' (at' t (b : Int)) (d : Int) from h2), Bool.true_and, Bool.not_not, decide_eq_true_eq] at w
  exact w
section
variable {h : HallT} {places : List Int} {ties : List Tie}
theorem mem_views {box : Int} {row : List Int} : row ∈ viewsOf h places ties box ↔ RowOk h.e box places row ∧ fitsB h.t ties row = true := by
  unfold viewsOf
  rw [List.mem_filter]
  exact ⟨fun q => ⟨rows_ok _ rfl row q.1, q.2⟩, fun q => ⟨rows_all _ rfl q.1, q.2⟩⟩
theorem made_arrow (H : HallOk h) {o b p f a : Int} (hf : f ∈ betw h.e o b) (ha : a ∈ betw h.e b p) : at' (at' h.t f) a ∈ betw h.e o p := by
  obtain ⟨f0, f1, f2⟩ := mem_betw.mp hf
  obtain ⟨a0, a1, a2⟩ := mem_betw.mp ha
  rcases made_of (tr_made (hall_table H) f0 f1 a0 a1) with q | q
  · rw [f2, a2] at q
    exact absurd rfl q.1
  · rw [f2, a2] at q
    exact mem_betw.mpr ⟨q.2.1, q.2.2.1, q.2.2.2⟩
theorem view_thru (H : HallOk h) (K : PicOk h places ties) {o b f : Int} {arrows : List Int} (hf : f ∈ betw h.e o b) (hv : arrows ∈ viewsOf h places ties b) : thruRow h.t f arrows ∈ viewsOf h places ties o := by
  obtain ⟨h1, h2⟩ := mem_views.mp hv
  obtain ⟨f0, f1, f2⟩ := mem_betw.mp hf
  have hat : ∀ {i : Int}, 0 ≤ i → i < places.length → at' (thruRow h.t f arrows) i = at' (at' h.t f) (at' arrows i) := fun i0 i1 => at_map (f := fun a => at' (at' h.t f) a) i0 (by rw [h1.1]; exact i1)
  refine mem_views.mpr ⟨⟨by unfold thruRow; rw [List.length_map, h1.1], fun i i0 i1 => ?_⟩, ?_⟩
  · rw [hat i0 i1]
    exact made_arrow H hf (h1.2 i i0 i1)
  · unfold fitsB at h2 ⊢
    rw [List.all_eq_true] at h2 ⊢
    intro t ht
    have q := h2 t ht
    unfold fitsR at q ⊢
    rw [decide_eq_true_eq] at q ⊢
    obtain ⟨⟨ta0, ta1⟩, ⟨tb0, tb1⟩, ⟨tc0, tc1⟩, te⟩ := tie_iff.mp (K.ti t ht)
    rw [hat ta0 ta1, hat tb0 tb1]
    obtain ⟨x0, x1⟩ := h1.at ta0 ta1
    obtain ⟨y0, y1⟩ := h1.at tb0 tb1
    obtain ⟨m0, m1, m2⟩ := mem_betw.mp (made_arrow H hf (h1.2 t.a ta0 ta1))
    have := threes_of (hall_parts H).2.2.2.2 f0 f1 x0 x1 tc0 tc1 m0 (by rw [q]; exact y0)
    rw [this, q]
theorem countT_eq {x : List Int} {xs : List (List Int)} : countT x xs = xs.count x := by
  unfold countT List.count
  refine List.countP_congr fun y _ => ?_
  rw [eqT_iff, beq_iff_eq]
theorem sub_back {α : Type} [DecidableEq α] {m V : List α} (hn : m.Nodup) (hs : ∀ x ∈ m, x ∈ V) (hl : V.length ≤ m.length) : ∀ v ∈ V, v ∈ m := fun v hv => by
  by_cases q : v ∈ m
  · exact q
  · have := nodup_le (L := V.erase v) hn fun x hx => (List.mem_erase_of_ne (fun e => q (by rw [← e]; exact hx))).mpr (hs x hx)
    rw [List.length_erase_of_mem hv] at this
    have : 0 < V.length := List.length_pos_of_mem hv
    omega
theorem best_same (H : HallOk h) (K : PicOk h places ties) {box : Nat} {arrows : List Int} (hv : arrows ∈ viewsOf h places ties (box : Int)) : isBestL h (knownOf h places ties) box arrows = isBestB h (knownOf h places ties) box arrows := by
  rw [Bool.eq_iff_iff]
  unfold isBestL isBestB
  rw [DL.all_range, DL.all_range]
  have hlen : (knownOf h places ties).length = h.r.length := by unfold knownOf; rw [List.length_map, List.length_range]
  refine forall_congr' fun o => forall_congr' fun ho => ?_
  rw [Bool.and_eq_true, Bool.and_eq_true, decide_eq_true_eq, decide_eq_true_eq, List.all_eq_true]
  have hk : at' (knownOf h places ties) (o : Int) = viewsOf h places ties (o : Int) := at_rangeMap (by omega)
  rw [hk]
  have hs : ∀ x ∈ madeOf h (o : Int) (box : Int) arrows, x ∈ viewsOf h places ties (o : Int) := fun x hx => by
    obtain ⟨f, hf, rfl⟩ := List.mem_map.mp hx
    exact view_thru H K hf hv
  constructor
  · rintro ⟨h1, h2⟩
    refine ⟨List.nodup_iff_count.mpr fun a => ?_, h1⟩
    by_cases q : a ∈ madeOf h (o : Int) (box : Int) arrows
    · have := h2 a (hs a q)
      rw [decide_eq_true_eq, countT_eq] at this
      omega
    · rw [List.count_eq_zero_of_not_mem q]
      omega
  · rintro ⟨h1, h2⟩
    refine ⟨h2, fun v hv => ?_⟩
    have hm := sub_back h1 hs (by omega) v hv
    rw [decide_eq_true_eq, countT_eq, h1.count, if_pos hm]
    rfl
theorem allP_congr {xss : List (List (List Int))} {p q : Nat → List Int → Bool} (hpq : ∀ i : Nat, i < xss.length → ∀ y ∈ at' xss (i : Int), p i y = q i y) : allP xss p = allP xss q := by
  unfold allP
  congr 1
  refine List.map_congr_left fun i hi => ?_
  rw [List.filter_congr fun y hy => hpq i (List.mem_range.mp hi) y hy]
theorem bests_law (H : HallOk h) (K : PicOk h places ties) : allP (knownOf h places ties) (isBestL h (knownOf h places ties)) = bestsOf h places ties := by
  refine allP_congr fun i hi y hy => best_same H K ?_
  have hlen : (knownOf h places ties).length = h.r.length := by unfold knownOf; rw [List.length_map, List.length_range]
  have hk : at' (knownOf h places ties) (i : Int) = viewsOf h places ties (i : Int) := at_rangeMap (by omega)
  rw [hk] at hy
  exact hy
end
theorem flat_nil {α β : Type} {f : α → List β} {l : List α} (h : ∀ x ∈ l, f x = []) : (l.map f).flatten = [] := by
  rw [List.flatten_eq_nil_iff]
  intro y hy
  obtain ⟨x, hx, rfl⟩ := List.mem_map.mp hy
  exact h x hx
theorem range_split {n i : Nat} (h : i < n) : ∃ r, List.range n = List.range i ++ i :: r := by
  refine ⟨(List.range n).drop (i + 1), ?_⟩
  have e1 : (List.range n).take i = List.range i := by rw [List.take_range, Nat.min_eq_left (by omega)]
  have e2 : (List.range n).drop i = i :: (List.range n).drop (i + 1) := by
    rw [List.drop_eq_getElem_cons (by rw [List.length_range]; exact h), List.getElem_range]
  rw [← e1, ← e2, List.take_append_drop]
theorem allP_first {xss : List (List (List Int))} {p : Nat → List Int → Bool} {i j : Nat} {ys : List (List Int)} {y : List Int} (hi : xss[i]? = some ys) (hj : ys[j]? = some y) (hp : p i y = true) (h1 : ∀ (i' : Nat) ys', i' < i → xss[i']? = some ys' → ∀ y' ∈ ys', p i' y' = false) (h2 : ∀ (j' : Nat) y', j' < j → ys[j']? = some y' → p i y' = false) : (allP xss p).head? = some ((i : Int), y) := by
  have hil := (List.getElem?_eq_some_iff.mp hi).1
  obtain ⟨r, hr⟩ := range_split hil
  unfold allP
  rw [hr, List.map_append, List.flatten_append, flat_nil (fun k hk => ?_), List.nil_append, List.map_cons, List.flatten_cons, at_nat hi]
  · have e : ys = ys.take j ++ y :: ys.drop (j + 1) := by
      have hjl := (List.getElem?_eq_some_iff.mp hj)
      have e2 : ys.drop j = y :: ys.drop (j + 1) := by rw [List.drop_eq_getElem_cons hjl.1, hjl.2]
      rw [← e2, List.take_append_drop]
    rw [e, List.filter_append, List.filter_cons, if_pos hp]
    have e3 : (ys.take j).filter (p i) = [] := by
      rw [List.filter_eq_nil_iff]
      intro z hz
      obtain ⟨k, hk, e4⟩ := List.getElem_of_mem hz
      rw [List.length_take] at hk
      rw [List.getElem_take] at e4
      rw [h2 k z (by omega) (by rw [List.getElem?_eq_getElem (by omega), e4])]
      decide
    rw [e3]
    rfl
  · have hk' := List.mem_range.mp hk
    have hkl : k < xss.length := by omega
    rw [at_get hkl]
    rw [List.map_eq_nil_iff, List.filter_eq_nil_iff]
    intro z hz
    rw [h1 k _ hk' (List.getElem?_eq_getElem hkl) z hz]
    decide
theorem allP_none {xss : List (List (List Int))} {p : Nat → List Int → Bool} (h : ∀ (i : Nat) ys, xss[i]? = some ys → ∀ y ∈ ys, p i y = false) : allP xss p = [] := by
  unfold allP
  refine flat_nil fun k hk => ?_
  have hkl := List.mem_range.mp hk
  rw [at_get hkl, List.map_eq_nil_iff, List.filter_eq_nil_iff]
  intro z hz
  rw [h k _ (List.getElem?_eq_getElem hkl) z hz]
  decide
def dopt : Option (Int × List Int) → D
  | none => .non
  | some p => Dat.d p
end DL

/-! MathR: readings. -/
namespace DL
open PySem L2
abbrev ReadT := List Int × List (List Int)
def listRight (h : HallT) (cs : List Int) (ms : List (List Int)) (i : Nat) : Bool := decide (((at' ms (i : Int)).length : Int) = at' cs (at' h.e (i : Int)).1) && (at' ms (i : Int)).all fun x => !(decide (x < 0) || decide (at' cs (at' h.e (i : Int)).2 ≤ x))
def listsRight (h : HallT) (cs : List Int) (ms : List (List Int)) : Bool := (List.range ms.length).all (listRight h cs ms)
def restsRead (h : HallT) (cs : List Int) (ms : List (List Int)) : Bool := (List.range cs.length).all fun (b : Nat) => eqT (at' ms (at' h.r (b : Int))) (rangeI (at' cs (b : Int)).toNat)
def compRow (ms : List (List Int)) (i j : Int) : List Int := (at' ms i).map fun x => at' (at' ms j) x
def twoRead (h : HallT) (ms : List (List Int)) (i j : Nat) : Bool := !(decide (0 ≤ at' (at' h.t (i : Int)) (j : Int)) && !eqT (compRow ms (i : Int) (j : Int)) (at' ms (at' (at' h.t (i : Int)) (j : Int))))
def compsRead (h : HallT) (ms : List (List Int)) : Bool := (List.range ms.length).all fun i => (List.range ms.length).all fun j => twoRead h ms i j
def cntOk (x : Int) : Bool := !(decide (x < 0) || decide (40 < x))
def isReadB (h : HallT) (cs : List Int) (ms : List (List Int)) : Bool :=
  if (!decide ((cs.length : Int) = (h.r.length : Int)) || !decide ((ms.length : Int) = (h.e.length : Int))) = true then false else if cs.all cntOk = false then false else if listsRight h cs ms = false then false else if restsRead h cs ms = false then false else compsRead h ms
structure ReadOk (h : HallT) (cs : List Int) (ms : List (List Int)) : Prop where
  lc : cs.length = h.r.length
  lm : ms.length = h.e.length
  cn : ∀ x ∈ cs, 0 ≤ x ∧ x ≤ 40
  ln : ∀ i : Int, 0 ≤ i → i < h.e.length → ((at' ms i).length : Int) = at' cs (at' h.e i).1
  en : ∀ i : Int, 0 ≤ i → i < h.e.length → ∀ x ∈ at' ms i, 0 ≤ x ∧ x < at' cs (at' h.e i).2
  re : ∀ b : Int, 0 ≤ b → b < h.r.length → at' ms (at' h.r b) = rangeI (at' cs b).toNat
  co : ∀ i j : Int, 0 ≤ i → i < h.e.length → 0 ≤ j → j < h.e.length → 0 ≤ at' (at' h.t i) j → compRow ms i j = at' ms (at' (at' h.t i) j)
theorem read_iff {h : HallT} {cs : List Int} {ms : List (List Int)} : isReadB h cs ms = true ↔ ReadOk h cs ms := by
  unfold isReadB
  constructor
  · intro q
    split at q
    · cases q
    rename_i h1
    split at q
    · cases q
    rename_i h2
    split at q
    · cases q
    rename_i h3
    split at q
    · cases q
    rename_i h4
    simp only [Bool.or_eq_true, Bool.not_eq_true', decide_eq_false_iff_not, not_or, Classical.not_not] at h1
    rw [Bool.not_eq_false] at h2 h3 h4
    have lm : ms.length = h.e.length := by omega
    have lc : cs.length = h.r.length := by omega
    unfold listsRight at h3
    rw [DL.all_range] at h3
    unfold restsRead at h4
    rw [DL.all_range] at h4
    unfold compsRead at q
    rw [DL.all_range] at q
    rw [List.all_eq_true] at h2
    have h3' : ∀ i : Int, 0 ≤ i → i < h.e.length → ((at' ms i).length : Int) = at' cs (at' h.e i).1 ∧ ∀ x ∈ at' ms i, 0 ≤ x ∧ x < at' cs (at' h.e i).2 := fun i i0 i1 => by
      obtain ⟨k, rfl⟩ := Int.eq_ofNat_of_zero_le i0
      have := h3 k (by omega)
      unfold listRight at this
      rw [Bool.and_eq_true, decide_eq_true_eq, List.all_eq_true] at this
      refine ⟨this.1, fun x hx => ?_⟩
      have w := this.2 x hx
      simp only [Bool.not_eq_true', Bool.or_eq_false_iff, decide_eq_false_iff_not] at w
      have w1 := w.1
      have w2 := w.2
      exact ⟨by omega, by show x < at' cs (at' h.e ((k : Nat) : Int)).2; omega⟩
    refine ⟨lc, lm, fun x hx => ?_, fun i i0 i1 => (h3' i i0 i1).1, fun i i0 i1 => (h3' i i0 i1).2, fun b b0 b1 => ?_, fun i j i0 i1 j0 j1 hm => ?_⟩
    · have := h2 x hx
      unfold cntOk at this
      simp only [Bool.not_eq_true', Bool.or_eq_false_iff, decide_eq_false_iff_not] at this
      omega
    · obtain ⟨k, rfl⟩ := Int.eq_ofNat_of_zero_le b0
      exact eqT_iff.mp (h4 k (by omega))
    · obtain ⟨k, rfl⟩ := Int.eq_ofNat_of_zero_le i0
      obtain ⟨l, rfl⟩ := Int.eq_ofNat_of_zero_le j0
      have w := DL.all_range.mp (q k (by omega)) l (by omega)
      unfold twoRead at w
      rw [decide_eq_true (show 0 ≤ at' (at' h.t (k : Int)) (l : Int) from hm), Bool.true_and, Bool.not_not, eqT_iff] at w
      exact w
  · intro R
    have lm := R.lm
    have lc := R.lc
    rw [if_neg (by simp only [Bool.or_eq_true, Bool.not_eq_true', decide_eq_false_iff_not, not_or, Classical.not_not]; omega)]
    have h2 : cs.all cntOk = true := by
      rw [List.all_eq_true]
      intro x hx
      have := R.cn x hx
      unfold cntOk
      simp only [Bool.not_eq_true', Bool.or_eq_false_iff, decide_eq_false_iff_not]
      omega
    have h3 : listsRight h cs ms = true := by
      unfold listsRight
      rw [DL.all_range]
      intro i hi
      unfold listRight
      rw [Bool.and_eq_true, decide_eq_true_eq, List.all_eq_true]
      refine ⟨R.ln _ (by omega) (by omega), fun x hx => ?_⟩
      have := R.en (i : Int) (by omega) (by omega) x hx
      simp only [Bool.not_eq_true', Bool.or_eq_false_iff, decide_eq_false_iff_not]
      omega
    have h4 : restsRead h cs ms = true := by
      unfold restsRead
      rw [DL.all_range]
      intro b hb
      exact eqT_iff.mpr (R.re _ (by omega) (by omega))
    rw [if_neg (by rw [h2]; decide), if_neg (by rw [h3]; decide), if_neg (by rw [h4]; decide)]
    unfold compsRead
    rw [DL.all_range]
    intro i hi
    rw [DL.all_range]
    intro j hj
    unfold twoRead
    by_cases w : 0 ≤ at' (at' h.t (i : Int)) (j : Int)
    · rw [decide_eq_true w, Bool.true_and, Bool.not_not, eqT_iff]
      exact R.co _ _ (by omega) (by omega) (by omega) (by omega) w
    · rw [decide_eq_false w]
      rfl
section
variable {h : HallT} {cs : List Int} {ms : List (List Int)}
theorem ends_of (H : HallOk h) {i : Int} (i0 : 0 ≤ i) (i1 : i < h.e.length) : (0 ≤ (at' h.e i).1 ∧ (at' h.e i).1 < h.r.length) ∧ 0 ≤ (at' h.e i).2 ∧ (at' h.e i).2 < h.r.length := by
  have h2 := (hall_parts H).2.1
  unfold endsRight at h2
  rw [List.all_eq_true] at h2
  have := h2 _ (at_mem i0 i1)
  unfold endBad at this
  simp only [Bool.not_eq_true', Bool.or_eq_false_iff, decide_eq_false_iff_not] at this
  omega
theorem rest_of (H : HallOk h) {b : Int} (b0 : 0 ≤ b) (b1 : b < h.r.length) : (0 ≤ at' h.r b ∧ at' h.r b < h.e.length) ∧ at' h.e (at' h.r b) = (b, b) ∧ ∀ a : Int, 0 ≤ a → a < h.e.length → ((at' h.e a).1 = b → at' (at' h.t (at' h.r b)) a = a) ∧ ((at' h.e a).2 = b → at' (at' h.t a) (at' h.r b) = a) := by
  have h2 := (hall_parts H).2.2.2.1
  unfold restsRight at h2
  rw [DL.all_range] at h2
  obtain ⟨k, rfl⟩ := Int.eq_ofNat_of_zero_le b0
  have q := h2 k (by omega)
  unfold restRight at q
  rw [Bool.and_eq_true, DL.all_range] at q
  obtain ⟨q1, q2⟩ := q
  simp only [Bool.not_eq_true', Bool.or_eq_false_iff, decide_eq_false_iff_not, Bool.not_eq_false'] at q1
  obtain ⟨q3, q4, q5⟩ := q1
  rw [eqT_iff] at q5
  refine ⟨⟨by show 0 ≤ at' h.r ((k : Nat) : Int); omega, by show at' h.r ((k : Nat) : Int) < _; omega⟩, q5, fun a a0 a1 => ?_⟩
  obtain ⟨l, rfl⟩ := Int.eq_ofNat_of_zero_le a0
  have w := q2 l (by omega)
  unfold restArrow at w
  rw [Bool.and_eq_true] at w
  refine ⟨fun e => ?_, fun e => ?_⟩
  · have w1 := w.1
    rw [decide_eq_true (show (at' h.e (l : Int)).1 = (k : Int) from e), Bool.true_and, Bool.not_not, decide_eq_true_eq] at w1
    exact w1
  · have w1 := w.2
    rw [decide_eq_true (show (at' h.e (l : Int)).2 = (k : Int) from e), Bool.true_and, Bool.not_not, decide_eq_true_eq] at w1
    exact w1
/-- an entry of the table, told or none -/
theorem tab_of (H : HallOk h) {i j : Int} (i0 : 0 ≤ i) (i1 : i < h.e.length) (j0 : 0 ≤ j) (j1 : j < h.e.length) (hm : 0 ≤ at' (at' h.t i) j) : (at' h.e i).2 = (at' h.e j).1 ∧ at' (at' h.t i) j < h.e.length ∧ at' h.e (at' (at' h.t i) j) = ((at' h.e i).1, (at' h.e j).2) := by
  rcases made_of (tr_made (hall_table H) i0 i1 j0 j1) with q | q
  · omega
  · exact ⟨q.1, q.2.2.1, q.2.2.2⟩
theorem tab_met (H : HallOk h) {i j : Int} (i0 : 0 ≤ i) (i1 : i < h.e.length) (j0 : 0 ≤ j) (j1 : j < h.e.length) (e : (at' h.e i).2 = (at' h.e j).1) : 0 ≤ at' (at' h.t i) j := by
  rcases made_of (tr_made (hall_table H) i0 i1 j0 j1) with q | q
  · exact absurd e q.1
  · exact q.2.1
theorem ReadOk.row (R : ReadOk h cs ms) (H : HallOk h) {i : Int} (i0 : 0 ≤ i) (i1 : i < h.e.length) : (at' ms i).length ≤ 40 := by
  have q := R.ln i i0 i1
  have e := (ends_of H i0 i1).1
  have := R.cn _ (at_mem (xs := cs) e.1 (by rw [R.lc]; exact e.2))
  omega
end
/-! ### two readings beside one another -/
def besideC (a b : List Int) : List Int := List.zipWith (fun x y => x + y) a b
def besideM (h : HallT) (one other : ReadT) : List (List Int) := (List.range h.e.length).map fun (i : Nat) => at' one.2 (i : Int) ++ (at' other.2 (i : Int)).map fun x => x + at' one.1 (at' h.e (i : Int)).2
theorem besideC_at {a b : List Int} (hl : a.length = b.length) {i : Int} (i0 : 0 ≤ i) (i1 : i < a.length) : at' (besideC a b) i = at' a i + at' b i := by
  obtain ⟨k, rfl⟩ := Int.eq_ofNat_of_zero_le i0
  have hk : k < a.length := by omega
  have e := at_get (xs := besideC a b) (i := k) (by unfold besideC; rw [List.length_zipWith]; omega)
  show at' (besideC a b) ((k : Nat) : Int) = at' a ((k : Nat) : Int) + at' b ((k : Nat) : Int)
  rw [e, at_get hk, at_get (by omega)]
  unfold besideC
  rw [List.getElem_zipWith]
theorem at_app_l {α : Type} [Dat α] {l m : List α} {i : Int} (h0 : 0 ≤ i) (h1 : i < l.length) : at' (l ++ m) i = at' l i := by
  obtain ⟨j, rfl⟩ := Int.eq_ofNat_of_zero_le h0
  have hj : j < l.length := by omega
  show at' (l ++ m) ((j : Nat) : Int) = at' l ((j : Nat) : Int)
  rw [at_get (by rw [List.length_append]; omega), at_get hj, List.getElem_append_left hj]
theorem at_app_r {α : Type} [Dat α] {l m : List α} {i : Int} (h0 : 0 ≤ i) (h1 : i < m.length) : at' (l ++ m) (i + l.length) = at' m i := by
  obtain ⟨j, rfl⟩ := Int.eq_ofNat_of_zero_le h0
  have hj : j < m.length := by omega
  show at' (l ++ m) (((j : Nat) : Int) + (l.length : Int)) = at' m ((j : Nat) : Int)
  have e : ((j : Nat) : Int) + (l.length : Int) = ((l.length + j : Nat) : Int) := by omega
  rw [e, at_get (by rw [List.length_append]; omega), at_get hj, List.getElem_append_right (by omega)]
  simp
theorem rangeI_add (m n : Nat) : rangeI (m + n) = rangeI m ++ (rangeI n).map fun x => x + (m : Int) := by
  unfold rangeI
  rw [List.range_add, List.map_append, List.map_map, List.map_map]
  congr 1
  refine List.map_congr_left fun x _ => ?_
  show ((m + x : Nat) : Int) = (x : Int) + (m : Int)
  omega
theorem beside_ok {h : HallT} (H : HallOk h) {one other : ReadT} (R : ReadOk h one.1 one.2) (S : ReadOk h other.1 other.2) (hs : ∀ b : Int, 0 ≤ b → b < h.r.length → at' one.1 b + at' other.1 b ≤ 40) : ReadOk h (besideC one.1 other.1) (besideM h one other) := by
  have lc : one.1.length = other.1.length := R.lc.trans S.lc.symm
  have cat : ∀ {b : Int}, 0 ≤ b → b < h.r.length → at' (besideC one.1 other.1) b = at' one.1 b + at' other.1 b := fun b0 b1 => besideC_at lc b0 (by rw [R.lc]; exact b1)
  have mat : ∀ {i : Int}, 0 ≤ i → i < h.e.length → at' (besideM h one other) i = at' one.2 i ++ (at' other.2 i).map fun x => x + at' one.1 (at' h.e i).2 := fun {i} i0 i1 => by
    obtain ⟨k, rfl⟩ := Int.eq_ofNat_of_zero_le i0
    exact at_rangeMap (f := fun (i : Nat) => at' one.2 (i : Int) ++ (at' other.2 (i : Int)).map fun x => x + at' one.1 (at' h.e (i : Int)).2) (by omega)
  have c0 : ∀ {b : Int}, 0 ≤ b → b < h.r.length → 0 ≤ at' one.1 b ∧ 0 ≤ at' other.1 b := fun b0 b1 => ⟨(R.cn _ (at_mem b0 (by rw [R.lc]; exact b1))).1, (S.cn _ (at_mem b0 (by rw [S.lc]; exact b1))).1⟩
  refine ⟨by unfold besideC; rw [List.length_zipWith, R.lc, S.lc, Nat.min_self], by unfold besideM; rw [List.length_map, List.length_range], fun x hx => ?_, fun i i0 i1 => ?_, fun i i0 i1 x hx => ?_, fun b b0 b1 => ?_, fun i j i0 i1 j0 j1 hm => ?_⟩
  · obtain ⟨k, hk, e⟩ := List.getElem_of_mem hx
    have hk2 : k < h.r.length := by
      have : (besideC one.1 other.1).length = h.r.length := by unfold besideC; rw [List.length_zipWith, R.lc, S.lc, Nat.min_self]
      omega
    rw [← at_get hk] at e
    rw [← e, cat (by omega) (by omega)]
    have := hs (k : Int) (by omega) (by omega)
    have := c0 (b := (k : Int)) (by omega) (by omega)
    omega
  · obtain ⟨⟨e0, e1⟩, _⟩ := ends_of H i0 i1
    rw [mat i0 i1, cat e0 e1, List.length_append, List.length_map]
    have := R.ln i i0 i1
    have := S.ln i i0 i1
    omega
  · obtain ⟨_, e0, e1⟩ := ends_of H i0 i1
    rw [cat e0 e1]
    rw [mat i0 i1] at hx
    have := c0 e0 e1
    rcases List.mem_append.mp hx with q | q
    · have := R.en i i0 i1 x q
      omega
    · obtain ⟨y, hy, rfl⟩ := List.mem_map.mp q
      have := S.en i i0 i1 y hy
      omega
  · obtain ⟨⟨r0, r1⟩, r2, _⟩ := rest_of H b0 b1
    rw [mat r0 r1, cat b0 b1, R.re b b0 b1, S.re b b0 b1, r2]
    have := c0 b0 b1
    have e : (at' one.1 b + at' other.1 b).toNat = (at' one.1 b).toNat + (at' other.1 b).toNat := by omega
    have e2 : (((at' one.1 b).toNat : Nat) : Int) = at' one.1 b := by omega
    rw [e, rangeI_add, e2]
  · obtain ⟨t1, t2, t3⟩ := tab_of H i0 i1 j0 j1 hm
    obtain ⟨_, e0, e1⟩ := ends_of H i0 i1
    unfold compRow
    rw [mat i0 i1, mat j0 j1, mat hm t2, ← R.co i j i0 i1 j0 j1 hm, ← S.co i j i0 i1 j0 j1 hm, t3, List.map_append, List.map_map]
    have lj : ((at' one.2 j).length : Int) = at' one.1 (at' h.e i).2 := by rw [R.ln j j0 j1, t1]
    congr 1
    · refine List.map_congr_left fun x hx => ?_
      have := R.en i i0 i1 x hx
      exact at_app_l this.1 (by omega)
    · unfold compRow
      rw [List.map_map]
      refine List.map_congr_left fun x hx => ?_
      have hx2 := S.en i i0 i1 x hx
      have lj2 : ((at' other.2 j).length : Int) = at' other.1 (at' h.e i).2 := by rw [S.ln j j0 j1, t1]
      show at' (at' one.2 j ++ _) (x + at' one.1 (at' h.e i).2) = at' (at' other.2 j) x + at' one.1 (at' h.e j).2
      rw [← lj, at_app_r hx2.1 (by rw [List.length_map]; omega), at_map (f := fun x => x + at' one.1 (at' h.e j).2) hx2.1 (by omega)]
end DL
namespace DL
/-! ### the readings that are drawn -/
theorem all_at {α : Type} [Dat α] {x : α} {n : Nat} {i : Int} (h0 : 0 ≤ i) (h1 : i < n) : at' (List.replicate n x) i = x := by
  obtain ⟨j, rfl⟩ := Int.eq_ofNat_of_zero_le h0
  show at' (List.replicate n x) ((j : Nat) : Int) = x
  rw [at_get (by rw [List.length_replicate]; omega), List.getElem_replicate]
theorem map_const {α β : Type} (x : β) : ∀ l : List α, (l.map fun _ => x) = List.replicate l.length x
  | [] => rfl
  | a :: l => by rw [List.map_cons, map_const x l]; rfl
def pointR (h : HallT) : ReadT := (List.replicate h.r.length 1, List.replicate h.e.length [0])
def noneR (h : HallT) : ReadT := (List.replicate h.r.length 0, List.replicate h.e.length [])
section
variable {h : HallT} (H : HallOk h)
include H
theorem point_ok : ReadOk h (pointR h).1 (pointR h).2 := by
  unfold pointR
  refine ⟨List.length_replicate, List.length_replicate, fun x hx => ?_, fun i i0 i1 => ?_, fun i i0 i1 x hx => ?_, fun b b0 b1 => ?_, fun i j i0 i1 j0 j1 hm => ?_⟩
  · rw [List.eq_of_mem_replicate hx]
    decide
  · obtain ⟨⟨e0, e1⟩, _⟩ := ends_of H i0 i1
    rw [all_at i0 i1, all_at e0 e1]
    rfl
  · obtain ⟨_, e0, e1⟩ := ends_of H i0 i1
    rw [all_at i0 i1] at hx
    rw [all_at e0 e1, List.mem_singleton.mp hx]
    decide
  · obtain ⟨⟨r0, r1⟩, _⟩ := rest_of H b0 b1
    rw [all_at r0 r1, all_at b0 b1]
    rfl
  · obtain ⟨t1, t2, t3⟩ := tab_of H i0 i1 j0 j1 hm
    unfold compRow
    rw [all_at i0 i1, all_at j0 j1, all_at hm t2]
    rfl
theorem none_ok : ReadOk h (noneR h).1 (noneR h).2 := by
  unfold noneR
  refine ⟨List.length_replicate, List.length_replicate, fun x hx => ?_, fun i i0 i1 => ?_, fun i i0 i1 x hx => ?_, fun b b0 b1 => ?_, fun i j i0 i1 j0 j1 hm => ?_⟩
  · rw [List.eq_of_mem_replicate hx]
    decide
  · obtain ⟨⟨e0, e1⟩, _⟩ := ends_of H i0 i1
    rw [all_at i0 i1, all_at e0 e1]
    rfl
  · rw [all_at i0 i1] at hx
    cases hx
  · obtain ⟨⟨r0, r1⟩, _⟩ := rest_of H b0 b1
    rw [all_at r0 r1, all_at b0 b1]
    rfl
  · obtain ⟨t1, t2, t3⟩ := tab_of H i0 i1 j0 j1 hm
    unfold compRow
    rw [all_at i0 i1, all_at hm t2]
    rfl
end
/-- the things themselves -/
def plainR (sz : List Int) (known : List Arr) : ReadT := (sz, known.map fun a => a.c.l)
theorem plain_ok {sz : List Int} {known : List Arr} (G : GoodA sz known) : ReadOk (hallOf sz known) (plainR sz known).1 (plainR sz known).2 := by
  obtain ⟨s1, s2, s3⟩ := all_small sz G.sm
  have len : (hallOf sz known).e.length = known.length := endsOf_len
  have lr : (hallOf sz known).r.length = sz.length := restsOf_len
  have mat : ∀ {i : Int}, 0 ≤ i → i < known.length → at' (plainR sz known).2 i = (at' known i).c.l := fun i0 i1 => at_map (f := fun a : Arr => a.c.l) i0 i1
  have eat : ∀ {i : Int}, 0 ≤ i → i < known.length → at' (hallOf sz known).e i = ((at' known i).a, (at' known i).b) := fun i0 i1 => ends_at i0 i1
  refine ⟨lr.symm, by show (known.map fun a => a.c.l).length = _; rw [List.length_map, len], fun x hx => ?_, fun i i0 i1 => ?_, fun i i0 i1 x hx => ?_, fun b b0 b1 => ?_, fun i j i0 i1 j0 j1 hm => ?_⟩
  · have := s1 x hx
    omega
  · rw [len] at i1
    rw [mat i0 i1, eat i0 i1]
    exact (G.ok _ (at_mem i0 i1)).len
  · rw [len] at i1
    rw [mat i0 i1] at hx
    rw [eat i0 i1]
    exact (G.ok _ (at_mem i0 i1)).low x hx
  · rw [lr] at b1
    obtain ⟨k, rfl⟩ := Int.eq_ofNat_of_zero_le b0
    have hm := G.id k (by omega)
    have e : at' (hallOf sz known).r ((k : Nat) : Int) = (idx known (idA sz k) : Int) := rests_at (by omega)
    show at' (plainR sz known).2 (at' (hallOf sz known).r ((k : Nat) : Int)) = _
    rw [e, mat (by omega) (by have := idx_lt hm; omega), idx_at hm]
    rfl
  · rw [len] at i1 j1
    have te : at' (at' (hallOf sz known).t i) j = entry known (at' known i) (at' known j) := table_at i0 i1 j0 j1
    rw [te] at hm ⊢
    by_cases q : (at' known i).b = (at' known j).a
    · obtain ⟨e0, e1, e2⟩ := entry_yes G (at_mem i0 i1) (at_mem j0 j1) q
      unfold compRow
      rw [mat i0 i1, mat j0 j1, mat e0 e1, e2]
      rfl
    · rw [entry_no q] at hm
      omega
/-! ### what leads out of a box -/
def outC (h : HallT) (box : Int) : List Int := (List.range h.r.length).map fun (o : Nat) => ((betw h.e box (o : Int)).length : Int)
def outRow (h : HallT) (box a : Int) : List Int := (betw h.e box (at' h.e a).1).map fun f => ((placeI (betw h.e box (at' h.e a).2) (at' (at' h.t f) a) : Nat) : Int)
def outM (h : HallT) (box : Int) : List (List Int) := (List.range h.e.length).map fun (a : Nat) => outRow h box (a : Int)
theorem nodup_placeI {xs : List Int} (hn : xs.Nodup) {k : Nat} (hk : k < xs.length) : placeI xs xs[k] = k := by
  have h1 := placeI_get (xs := xs) (i := xs[k]) (List.getElem_mem hk)
  have h2 := placeI_lt (xs := xs) (i := xs[k]) (List.getElem_mem hk)
  rw [List.getElem?_eq_getElem h2] at h1
  exact (List.getElem_inj hn).mp (Option.some.inj h1)
theorem betw_nodup {e : EndsT} {b o : Int} : (betw e b o).Nodup := by
  unfold betw
  refine List.nodup_map_of ?_ (List.nodup_range.filter _)
  intro a b h
  omega
theorem place_at' {xs : List Int} {i : Int} (h : i ∈ xs) : at' xs (placeI xs i : Int) = i := at_nat (placeI_get h)
section
variable {h : HallT} {box : Int}
theorem outC_at {o : Int} (o0 : 0 ≤ o) (o1 : o < h.r.length) : at' (outC h box) o = ((betw h.e box o).length : Int) := by
  obtain ⟨k, rfl⟩ := Int.eq_ofNat_of_zero_le o0
  exact at_rangeMap (f := fun (o : Nat) => ((betw h.e box (o : Int)).length : Int)) (by omega)
theorem outM_at {a : Int} (a0 : 0 ≤ a) (a1 : a < h.e.length) : at' (outM h box) a = outRow h box a := by
  obtain ⟨k, rfl⟩ := Int.eq_ofNat_of_zero_le a0
  exact at_rangeMap (f := fun (a : Nat) => outRow h box (a : Int)) (by omega)
theorem betw_self {e : EndsT} {a : Int} (a0 : 0 ≤ a) (a1 : a < e.length) : a ∈ betw e (at' e a).1 (at' e a).2 := mem_betw.mpr ⟨a0, a1, rfl⟩
theorem out_ok (H : HallOk h) : ReadOk h (outC h box) (outM h box) := by
  have hs := hall_size H
  refine ⟨by unfold outC; rw [List.length_map, List.length_range], by unfold outM; rw [List.length_map, List.length_range], fun x hx => ?_, fun i i0 i1 => ?_, fun i i0 i1 x hx => ?_, fun b b0 b1 => ?_, fun i j i0 i1 j0 j1 hm => ?_⟩
  · unfold outC at hx
    obtain ⟨o, _, rfl⟩ := List.mem_map.mp hx
    have := betw_len (e := h.e) (b := box) (o := (o : Int))
    omega
  · obtain ⟨⟨e0, e1⟩, _⟩ := ends_of H i0 i1
    rw [outM_at i0 i1, outC_at e0 e1]
    unfold outRow
    rw [List.length_map]
  · obtain ⟨_, e0, e1⟩ := ends_of H i0 i1
    rw [outM_at i0 i1] at hx
    unfold outRow at hx
    obtain ⟨f, hf, rfl⟩ := List.mem_map.mp hx
    have hmem := made_arrow H hf (betw_self i0 i1)
    have := placeI_lt hmem
    rw [outC_at e0 e1]
    omega
  · obtain ⟨⟨r0, r1⟩, r2, r3⟩ := rest_of H b0 b1
    rw [outM_at r0 r1, outC_at b0 b1, Int.toNat_natCast]
    unfold outRow
    rw [r2]
    refine List.ext_getElem (by rw [List.length_map, rangeI_length]) fun k h1 h2 => ?_
    rw [List.getElem_map]
    rw [List.length_map] at h1
    obtain ⟨f0, f1, f2⟩ := mem_betw.mp (List.getElem_mem h1)
    rw [(r3 _ f0 f1).2 (by rw [f2]), nodup_placeI betw_nodup h1]
    simp [rangeI]
  · obtain ⟨t1, t2, t3⟩ := tab_of H i0 i1 j0 j1 hm
    unfold compRow
    rw [outM_at i0 i1, outM_at j0 j1, outM_at hm t2]
    unfold outRow
    rw [List.map_map, t3]
    refine List.map_congr_left fun f hf => ?_
    have hfi := made_arrow H hf (betw_self i0 i1)
    have hfi2 : at' (at' h.t f) i ∈ betw h.e box (at' h.e j).1 := by rw [← t1]; exact hfi
    obtain ⟨f0, f1, f2⟩ := mem_betw.mp hf
    obtain ⟨g0, g1, g2⟩ := mem_betw.mp hfi
    show at' ((betw h.e box (at' h.e j).1).map fun f => ((placeI (betw h.e box (at' h.e j).2) (at' (at' h.t f) j) : Nat) : Int)) ((placeI (betw h.e box (at' h.e i).2) (at' (at' h.t f) i) : Nat) : Int) = _
    have hp := placeI_lt hfi2
    have hpi : placeI (betw h.e box (at' h.e i).2) (at' (at' h.t f) i) = placeI (betw h.e box (at' h.e j).1) (at' (at' h.t f) i) := by rw [t1]
    rw [hpi, at_map (f := fun f => ((placeI (betw h.e box (at' h.e j).2) (at' (at' h.t f) j) : Nat) : Int)) (by omega) (by omega), place_at' hfi2]
    have ht := threes_of (hall_parts H).2.2.2.2 f0 f1 i0 i1 j0 j1 g0 hm
    rw [ht]
end
end DL

/-! MathE: changes from one reading to another one. -/
namespace DL
open PySem L2
abbrev ChgT := List (List Int)
def arrowCh (h : HallT) (one other : ReadT) (ch : ChgT) (a : Nat) : Bool := !(decide ((at' h.e (a : Int)).1 < (ch.length : Int)) && decide ((at' h.e (a : Int)).2 < (ch.length : Int))) || (List.range (at' one.1 (at' h.e (a : Int)).1).toNat).all fun (k : Nat) => decide (at' (at' ch (at' h.e (a : Int)).2) (at' (at' one.2 (a : Int)) (k : Int)) = at' (at' other.2 (a : Int)) (at' (at' ch (at' h.e (a : Int)).1) (k : Int)))
def changeB (h : HallT) (one other : ReadT) (ch : ChgT) : Bool := (List.range h.e.length).all (arrowCh h one other ch)
/-- the rows told are right -/
structure RowsOk (one other : ReadT) (ch : ChgT) : Prop where
  le : ch.length ≤ one.1.length
  ln : ∀ b : Int, 0 ≤ b → b < ch.length → ((at' ch b).length : Int) = at' one.1 b
  en : ∀ b : Int, 0 ≤ b → b < ch.length → ∀ x ∈ at' ch b, 0 ≤ x ∧ x < at' other.1 b
def rowRt (one other : ReadT) (ch : ChgT) (b : Nat) : Bool := decide (((at' ch (b : Int)).length : Int) = at' one.1 (b : Int)) && (at' ch (b : Int)).all fun x => !(decide (x < 0) || decide (at' other.1 (b : Int) ≤ x))
def rowsB (one other : ReadT) (ch : ChgT) : Bool := decide ((ch.length : Int) = (one.1.length : Int)) && (List.range ch.length).all (rowRt one other ch)
theorem rows_iff {one other : ReadT} {ch : ChgT} : rowsB one other ch = true ↔ RowsOk one other ch ∧ ch.length = one.1.length := by
  unfold rowsB
  rw [Bool.and_eq_true, decide_eq_true_eq, DL.all_range]
  constructor
  · rintro ⟨h1, h2⟩
    have h2' : ∀ b : Int, 0 ≤ b → b < ch.length → ((at' ch b).length : Int) = at' one.1 b ∧ ∀ x ∈ at' ch b, 0 ≤ x ∧ x < at' other.1 b := fun b b0 b1 => by
      obtain ⟨k, rfl⟩ := Int.eq_ofNat_of_zero_le b0
      have := h2 k (by omega)
      unfold rowRt at this
      rw [Bool.and_eq_true, decide_eq_true_eq, List.all_eq_true] at this
      refine ⟨this.1, fun x hx => ?_⟩
      have w := this.2 x hx
      simp only [Bool.not_eq_true', Bool.or_eq_false_iff, decide_eq_false_iff_not] at w
      have w1 := w.1
      have w2 := w.2
      exact ⟨by omega, by show x < at' other.1 ((k : Nat) : Int); omega⟩
    exact ⟨⟨by omega, fun b b0 b1 => (h2' b b0 b1).1, fun b b0 b1 => (h2' b b0 b1).2⟩, by omega⟩
  · rintro ⟨R, h1⟩
    refine ⟨by omega, fun b hb => ?_⟩
    unfold rowRt
    rw [Bool.and_eq_true, decide_eq_true_eq, List.all_eq_true]
    refine ⟨R.ln _ (by omega) (by omega), fun x hx => ?_⟩
    have := R.en (b : Int) (by omega) (by omega) x hx
    simp only [Bool.not_eq_true', Bool.or_eq_false_iff, decide_eq_false_iff_not]
    omega
/-- the change that sends the rest of the box to the thing -/
def chOf (h : HallT) (box : Int) (ms : List (List Int)) (thing : Int) : ChgT := (List.range h.r.length).map fun (o : Nat) => (betw h.e box (o : Int)).map fun a => at' (at' ms a) thing
section
variable {h : HallT} {box thing : Int} {cs : List Int} {ms : List (List Int)}
theorem chOf_at {o : Int} (o0 : 0 ≤ o) (o1 : o < h.r.length) : at' (chOf h box ms thing) o = (betw h.e box o).map fun a => at' (at' ms a) thing := by
  obtain ⟨k, rfl⟩ := Int.eq_ofNat_of_zero_le o0
  exact at_rangeMap (f := fun (o : Nat) => (betw h.e box (o : Int)).map fun a => at' (at' ms a) thing) (by omega)
theorem chOf_len : (chOf h box ms thing).length = h.r.length := by unfold chOf; rw [List.length_map, List.length_range]
theorem outC_len : (outC h box).length = h.r.length := by unfold outC; rw [List.length_map, List.length_range]
theorem thing_row (R : ReadOk h cs ms) {a o : Int} (ha : a ∈ betw h.e box o) (t0 : 0 ≤ thing) (t1 : thing < at' cs box) : thing < (at' ms a).length ∧ 0 ≤ at' (at' ms a) thing ∧ at' (at' ms a) thing < at' cs o := by
  obtain ⟨a0, a1, a2⟩ := mem_betw.mp ha
  have hl := R.ln a a0 a1
  rw [a2] at hl
  have hl2 : thing < (at' ms a).length := by
    have : ((at' ms a).length : Int) = at' cs box := hl
    omega
  have he := R.en a a0 a1 _ (at_mem t0 hl2)
  rw [a2] at he
  exact ⟨hl2, he⟩
theorem chOf_rows (R : ReadOk h cs ms) (t0 : 0 ≤ thing) (t1 : thing < at' cs box) : rowsB (outC h box, outM h box) (cs, ms) (chOf h box ms thing) = true := by
  refine rows_iff.mpr ⟨⟨by rw [chOf_len]; exact Nat.le_of_eq outC_len.symm, fun b b0 b1 => ?_, fun b b0 b1 x hx => ?_⟩, by rw [chOf_len]; exact outC_len.symm⟩
  · rw [chOf_len] at b1
    rw [chOf_at b0 b1, List.length_map]
    exact (outC_at b0 b1).symm
  · rw [chOf_len] at b1
    rw [chOf_at b0 b1] at hx
    obtain ⟨a, ha, rfl⟩ := List.mem_map.mp hx
    exact (thing_row R ha t0 t1).2
theorem chOf_change (H : HallOk h) (R : ReadOk h cs ms) (t0 : 0 ≤ thing) (t1 : thing < at' cs box) : changeB h (outC h box, outM h box) (cs, ms) (chOf h box ms thing) = true := by
  unfold changeB
  rw [DL.all_range]
  intro a ha
  unfold arrowCh
  rw [Bool.or_eq_true, DL.all_range]
  refine .inr fun k hk => ?_
  obtain ⟨⟨e0, e1⟩, e2, e3⟩ := ends_of H (i := (a : Int)) (by omega) (by omega)
  have hoc : at' (outC h box) (at' h.e (a : Int)).1 = ((betw h.e box (at' h.e (a : Int)).1).length : Int) := outC_at e0 e1
  have hk' : k < (betw h.e box (at' h.e (a : Int)).1).length := by
    have hk2 : k < (at' (outC h box) (at' h.e (a : Int)).1).toNat := hk
    rw [hoc] at hk2
    omega
  dsimp only
  rw [decide_eq_true_eq, chOf_at e2 e3, chOf_at e0 e1, outM_at (by omega) (by omega)]
  unfold outRow
  have hf := at_mem (xs := betw h.e box (at' h.e (a : Int)).1) (i := (k : Int)) (by omega) (by omega)
  have hfa := made_arrow H hf (betw_self (e := h.e) (a := (a : Int)) (by omega) (by omega))
  have hpl := placeI_lt hfa
  obtain ⟨f0, f1, f2⟩ := mem_betw.mp hf
  obtain ⟨g0, g1, g2⟩ := mem_betw.mp hfa
  rw [at_map (f := fun f => ((placeI (betw h.e box (at' h.e (a : Int)).2) (at' (at' h.t f) (a : Int)) : Nat) : Int)) (by omega) (by omega), at_map (f := fun a => at' (at' ms a) thing) (i := ((placeI (betw h.e box (at' h.e (a : Int)).2) (at' (at' h.t (at' (betw h.e box (at' h.e (a : Int)).1) (k : Int))) (a : Int)) : Nat) : Int)) (by omega) (by omega), at_map (f := fun a => at' (at' ms a) thing) (i := (k : Int)) (by omega) (by omega), place_at' hfa, ← R.co _ (a : Int) f0 f1 (by omega) (by omega) g0]
  unfold compRow
  exact at_map (f := fun x => at' (at' ms (a : Int)) x) t0 (by have := (thing_row R hf t0 t1).1; omega)
theorem chOf_back (H : HallOk h) (R : ReadOk h cs ms) (b0 : 0 ≤ box) (b1 : box < h.r.length) (t0 : 0 ≤ thing) (t1 : thing < at' cs box) : at' h.r box ∈ betw h.e box box ∧ at' (at' (chOf h box ms thing) box) ((placeI (betw h.e box box) (at' h.r box) : Nat) : Int) = thing := by
  obtain ⟨⟨r0, r1⟩, r2, r3⟩ := rest_of H b0 b1
  have hm : at' h.r box ∈ betw h.e box box := mem_betw.mpr ⟨r0, r1, r2⟩
  refine ⟨hm, ?_⟩
  have hp := placeI_lt hm
  rw [chOf_at b0 b1, at_map (f := fun a => at' (at' ms a) thing) (by omega) (by omega), place_at' hm, R.re box b0 b1]
  exact at_rangeI t0 (by omega)
end
end DL

/-! MathG: by just one arrow; what undoes an arrow. -/
namespace DL
open PySem L2
def waysOf (h : HallT) (box : Int) (arrows : List Int) (other : Int) (view : List Int) : List Int := (betw h.e other box).filter fun f => eqT (thruRow h.t f arrows) view
def undoes (h : HallT) (a b : Int) : Bool := decide (at' (at' h.t a) b = at' h.r (at' h.e a).1) && decide (at' (at' h.t b) a = at' h.r (at' h.e a).2)
def undoneOf (h : HallT) (a : Int) : Option Int := (betw h.e (at' h.e a).2 (at' h.e a).1).find? (undoes h a)
def dint : Option Int → D
  | none => .non
  | some i => .int i
theorem filter_one {f : Int → List Int} {v : List Int} : ∀ {l : List Int}, (l.map f).Nodup → v ∈ l.map f → ∃ x, l.filter (fun y => eqT (f y) v) = [x]
  | [], _, h => by cases h
  | y :: l, hn, hv => by
    rw [List.map_cons, List.nodup_cons] at hn
    rw [List.map_cons, List.mem_cons] at hv
    by_cases q : f y = v
    · refine ⟨y, ?_⟩
      rw [List.filter_cons, if_pos (eqT_iff.mpr q)]
      congr 1
      rw [List.filter_eq_nil_iff]
      intro z hz w
      rw [eqT_iff] at w
      exact hn.1 (by rw [q, ← w]; exact List.mem_map.mpr ⟨z, hz, rfl⟩)
    · obtain ⟨x, hx⟩ := filter_one hn.2 (hv.resolve_left fun e => q e.symm)
      exact ⟨x, by rw [List.filter_cons, if_neg (by rw [eqT_iff]; exact q)]; exact hx⟩
section
variable {h : HallT} {places : List Int} {ties : List Tie}
theorem mem_ways {box other f : Int} {arrows view : List Int} : f ∈ waysOf h box arrows other view ↔ f ∈ betw h.e other box ∧ thruRow h.t f arrows = view := by
  unfold waysOf
  rw [List.mem_filter, eqT_iff]
theorem mem_bests {p : Int × List Int} : p ∈ bestsOf h places ties → ∃ b : Nat, b < h.r.length ∧ p.1 = (b : Int) ∧ p.2 ∈ viewsOf h places ties (b : Int) ∧ isBestB h (knownOf h places ties) b p.2 = true := fun hp => by
  have hlen : (knownOf h places ties).length = h.r.length := by unfold knownOf; rw [List.length_map, List.length_range]
  unfold bestsOf allP at hp
  obtain ⟨l, hl, hpl⟩ := List.mem_flatten.mp hp
  obtain ⟨i, hi, rfl⟩ := List.mem_map.mp hl
  obtain ⟨y, hy, rfl⟩ := List.mem_map.mp hpl
  have hi2 := List.mem_range.mp hi
  obtain ⟨h1, h2⟩ := List.mem_filter.mp hy
  have hk : at' (knownOf h places ties) (i : Int) = viewsOf h places ties (i : Int) := at_rangeMap (by omega)
  rw [hk] at h1
  exact ⟨i, by omega, rfl, h1, h2⟩
theorem best_one (H : HallOk h) (K : PicOk h places ties) {p : Int × List Int} (hp : p ∈ bestsOf h places ties) {o : Int} (o0 : 0 ≤ o) (o1 : o < h.r.length) {view : List Int} (hv : view ∈ viewsOf h places ties o) : ∃ f, waysOf h p.1 p.2 o view = [f] := by
  obtain ⟨b, hb, e1, h1, h2⟩ := mem_bests hp
  have hlen : (knownOf h places ties).length = h.r.length := by unfold knownOf; rw [List.length_map, List.length_range]
  obtain ⟨k, rfl⟩ := Int.eq_ofNat_of_zero_le o0
  unfold isBestB at h2
  have q := DL.all_range.mp h2 k (by omega)
  rw [Bool.and_eq_true, decide_eq_true_eq, decide_eq_true_eq] at q
  have hk : at' (knownOf h places ties) (k : Int) = viewsOf h places ties (k : Int) := at_rangeMap (by omega)
  rw [hk] at q
  have hm := sub_back q.1 (fun x hx => by
    obtain ⟨f, hf, rfl⟩ := List.mem_map.mp hx
    exact view_thru H K hf h1) (Nat.le_of_eq q.2.symm) view hv
  unfold waysOf
  rw [e1]
  exact filter_one q.1 hm
theorem thru_thru (H : HallOk h) {o b d f g : Int} {arrows : List Int} (hf : f ∈ betw h.e o b) (hg : g ∈ betw h.e b d) (ha : ∀ a ∈ arrows, 0 ≤ a ∧ a < h.e.length ∧ (at' h.e a).1 = d) : thruRow h.t (at' (at' h.t f) g) arrows = thruRow h.t f (thruRow h.t g arrows) := by
  obtain ⟨f0, f1, f2⟩ := mem_betw.mp hf
  obtain ⟨g0, g1, g2⟩ := mem_betw.mp hg
  obtain ⟨m0, _, _⟩ := mem_betw.mp (made_arrow H hf hg)
  unfold thruRow
  rw [List.map_map]
  refine List.map_congr_left fun a hm => ?_
  obtain ⟨a0, a1, a2⟩ := ha a hm
  have hga := tab_met H g0 g1 a0 a1 (by rw [g2, a2])
  exact threes_of (hall_parts H).2.2.2.2 f0 f1 g0 g1 a0 a1 m0 hga
theorem view_arrows {b : Int} {arrows : List Int} (hv : arrows ∈ viewsOf h places ties b) : ∀ a ∈ arrows, 0 ≤ a ∧ a < h.e.length ∧ (at' h.e a).1 = b := fun a ha => by
  obtain ⟨hro, _⟩ := mem_views.mp hv
  obtain ⟨k, hk, e⟩ := List.getElem_of_mem ha
  have := mem_betw.mp (hro.2 (k : Int) (by omega) (by have := hro.1; omega))
  rw [at_get hk, e] at this
  exact ⟨this.1, this.2.1, by rw [this.2.2]⟩
theorem rest_thru (H : HallOk h) {b : Int} (b0 : 0 ≤ b) (b1 : b < h.r.length) {arrows : List Int} (hv : arrows ∈ viewsOf h places ties b) : thruRow h.t (at' h.r b) arrows = arrows := by
  obtain ⟨⟨r0, r1⟩, r2, r3⟩ := rest_of H b0 b1
  unfold thruRow
  have : ∀ a ∈ arrows, at' (at' h.t (at' h.r b)) a = a := fun a ha => by
    obtain ⟨a0, a1, a2⟩ := view_arrows hv a ha
    exact (r3 a a0 a1).1 a2
  rw [List.map_congr_left this, List.map_id']
/-- two best views: just one arrow there and one back, and they undo each other -/
theorem pair_ok (H : HallOk h) (K : PicOk h places ties) {p q : Int × List Int} (hp : p ∈ bestsOf h places ties) (hq : q ∈ bestsOf h places ties) : ∃ f g, waysOf h q.1 q.2 p.1 p.2 = [f] ∧ waysOf h p.1 p.2 q.1 q.2 = [g] ∧ 0 ≤ f ∧ f < h.e.length ∧ undoneOf h f = some g := by
  obtain ⟨b1, hb1, e1, v1, _⟩ := mem_bests hp
  obtain ⟨b2, hb2, e2, v2, _⟩ := mem_bests hq
  obtain ⟨f, hf⟩ := best_one H K hq (o := p.1) (by rw [e1]; omega) (by rw [e1]; omega) (view := p.2) (by rw [e1]; exact v1)
  obtain ⟨g, hg⟩ := best_one H K hp (o := q.1) (by rw [e2]; omega) (by rw [e2]; omega) (view := q.2) (by rw [e2]; exact v2)
  obtain ⟨f1, f2⟩ := mem_ways.mp (show f ∈ waysOf h q.1 q.2 p.1 p.2 by rw [hf]; exact List.mem_singleton.mpr rfl)
  obtain ⟨g1, g2⟩ := mem_ways.mp (show g ∈ waysOf h p.1 p.2 q.1 q.2 by rw [hg]; exact List.mem_singleton.mpr rfl)
  obtain ⟨fx0, fx1, fx2⟩ := mem_betw.mp f1
  obtain ⟨gx0, gx1, gx2⟩ := mem_betw.mp g1
  have self : ∀ {p : Int × List Int}, p ∈ bestsOf h places ties → ∀ x y, x ∈ betw h.e p.1 p.1 → y ∈ betw h.e p.1 p.1 → thruRow h.t x p.2 = p.2 → thruRow h.t y p.2 = p.2 → x = y := fun {p} hp x y hx hy h1 h2 => by
    obtain ⟨b, hb, e, v, _⟩ := mem_bests hp
    obtain ⟨z, hz⟩ := best_one H K hp (o := p.1) (by rw [e]; omega) (by rw [e]; omega) (view := p.2) (by rw [e]; exact v)
    have w1 := mem_ways.mpr ⟨hx, h1⟩
    have w2 := mem_ways.mpr ⟨hy, h2⟩
    rw [hz, List.mem_singleton] at w1 w2
    rw [w1, w2]
  have back : ∀ {p q : Int × List Int} {f g : Int}, p ∈ bestsOf h places ties → f ∈ betw h.e p.1 q.1 → g ∈ betw h.e q.1 p.1 → thruRow h.t f q.2 = p.2 → thruRow h.t g p.2 = q.2 → at' (at' h.t f) g = at' h.r p.1 := fun {p q f g} hp hf hg h1 h2 => by
    obtain ⟨b, hb, e, v, _⟩ := mem_bests hp
    have b0 : 0 ≤ p.1 := by rw [e]; omega
    have b1 : p.1 < h.r.length := by rw [e]; omega
    have v' : p.2 ∈ viewsOf h places ties p.1 := by rw [e]; exact v
    obtain ⟨⟨r0, r1⟩, r2, _⟩ := rest_of H b0 b1
    refine self hp _ _ (made_arrow H hf hg) (mem_betw.mpr ⟨r0, r1, r2⟩) ?_ (rest_thru H b0 b1 v')
    rw [thru_thru H hf hg (view_arrows v'), h2, h1]
  have c1 := back hp f1 g1 f2 g2
  have c2 := back hq g1 f1 g2 f2
  refine ⟨f, g, hf, hg, fx0, fx1, ?_⟩
  unfold undoneOf
  have hund : undoes h f g = true := by
    unfold undoes
    rw [fx2, decide_eq_true c1, decide_eq_true c2]
    rfl
  have hgm : g ∈ betw h.e (at' h.e f).2 (at' h.e f).1 := by rw [fx2]; exact g1
  cases hfd : (betw h.e (at' h.e f).2 (at' h.e f).1).find? (undoes h f) with
  | none =>
    rw [List.find?_eq_none] at hfd
    exact absurd hund (hfd g hgm)
  | some b =>
    have hb := List.find?_some hfd
    have hbm := List.mem_of_find?_eq_some hfd
    rw [fx2] at hbm
    obtain ⟨bx0, bx1, bx2⟩ := mem_betw.mp hbm
    unfold undoes at hb
    rw [Bool.and_eq_true, decide_eq_true_eq, decide_eq_true_eq, fx2] at hb
    obtain ⟨d1, d2⟩ := hb
    dsimp only at d1 d2 bx2
    have P1 : 0 ≤ p.1 ∧ p.1 < h.r.length := by rw [e1]; omega
    have Q1 : 0 ≤ q.1 ∧ q.1 < h.r.length := by rw [e2]; omega
    have s1 := (rest_of H P1.1 P1.2).2.2 b bx0 bx1
    have s2 := (rest_of H Q1.1 Q1.2).2.2 g gx0 gx1
    have m1 := tab_met H bx0 bx1 fx0 fx1 (by rw [bx2, fx2])
    have m2 := tab_met H fx0 fx1 gx0 gx1 (by rw [fx2, gx2])
    have t := threes_of (hall_parts H).2.2.2.2 bx0 bx1 fx0 fx1 gx0 gx1 m1 m2
    rw [d2, c1, s2.1 (by rw [gx2]), s1.2 (by rw [bx2])] at t
    rw [← t]
end
end DL
namespace DL
theorem filter_first {α : Type} {p : α → Bool} {l : List α} {j : Nat} {x : α} (hj : l[j]? = some x) (hp : p x = true) (h : ∀ (j' : Nat) y, j' < j → l[j']? = some y → p y = false) : (l.filter p).head? = some x := by
  have hjl := List.getElem?_eq_some_iff.mp hj
  have e : l = l.take j ++ x :: l.drop (j + 1) := by
    have e2 : l.drop j = x :: l.drop (j + 1) := by rw [List.drop_eq_getElem_cons hjl.1, hjl.2]
    rw [← e2, List.take_append_drop]
  rw [e, List.filter_append, List.filter_cons, if_pos hp]
  have e3 : (l.take j).filter p = [] := by
    rw [List.filter_eq_nil_iff]
    intro z hz
    obtain ⟨k, hk, e4⟩ := List.getElem_of_mem hz
    rw [List.length_take] at hk
    rw [List.getElem_take] at e4
    rw [h k z (by omega) (by rw [List.getElem?_eq_getElem (by omega), e4])]
    decide
  rw [e3]
  rfl
end DL

/-! MathS: sendings. -/
namespace DL
open PySem L2
def inB (n : Nat) (x : Int) : Bool := !(decide (x < 0) || decide ((n : Int) ≤ x))
def sentEnds (h o : HallT) (bs as : List Int) (i : Nat) : Bool := eqT (at' o.e (at' as (i : Int))) (at' bs (at' h.e (i : Int)).1, at' bs (at' h.e (i : Int)).2)
def sentOk (h o : HallT) (bs as : List Int) (i : Nat) : Bool := inB o.e.length (at' as (i : Int)) && sentEnds h o bs as i
def endsSent (h o : HallT) (bs as : List Int) : Bool := bs.all (inB o.r.length) && (List.range as.length).all (sentOk h o bs as)
def sentRests (h o : HallT) (bs as : List Int) : Bool := (List.range bs.length).all fun (b : Nat) => decide (at' as (at' h.r (b : Int)) = at' o.r (at' bs (b : Int)))
def sentTwo (h o : HallT) (as : List Int) (i j : Nat) : Bool := !(decide (0 ≤ at' (at' h.t (i : Int)) (j : Int)) && !decide (at' (at' o.t (at' as (i : Int))) (at' as (j : Int)) = at' as (at' (at' h.t (i : Int)) (j : Int))))
def sentComps (h o : HallT) (as : List Int) : Bool := (List.range as.length).all fun i => (List.range as.length).all fun j => sentTwo h o as i j
def isSendB (h o : HallT) (bs as : List Int) : Bool :=
  if (!decide ((bs.length : Int) = (h.r.length : Int)) || !decide ((as.length : Int) = (h.e.length : Int))) = true then false else if endsSent h o bs as = false then false else if sentRests h o bs as = false then false else sentComps h o as
end DL
namespace DL
open PySem L2
theorem all_count27 : ∀ sz ∈ allSizes, (allArr sz).length ≤ 27 := by decide +kernel
theorem ok_count27 {sz : List Int} {l : List Arr} (hs : sz ∈ allSizes) (hn : l.Nodup) (ho : ∀ a ∈ l, AOk sz a) : l.length ≤ 27 := Nat.le_trans (nodup_le hn fun a ha => mem_allArr (ho a ha)) (all_count27 sz hs)
/-- the hall with a box more -/
def moreH (h : HallT) : HallT := ⟨h.e ++ [((h.r.length : Int), (h.r.length : Int))], h.r ++ [(h.e.length : Int)], (h.t.map fun row => row ++ [(-1 : Int)]) ++ [List.replicate h.e.length (-1) ++ [(h.e.length : Int)]]⟩
end DL
namespace DL
open PySem L2
section
variable {h : HallT}
theorem more_el : (moreH h).e.length = h.e.length + 1 := by unfold moreH; simp
theorem more_rl : (moreH h).r.length = h.r.length + 1 := by unfold moreH; simp
theorem more_e {i : Int} (i0 : 0 ≤ i) (i1 : i < h.e.length) : at' (moreH h).e i = at' h.e i := at_snoc_lt i0 i1
theorem more_en : at' (moreH h).e (h.e.length : Int) = ((h.r.length : Int), (h.r.length : Int)) := at_snoc_eq
theorem more_r {b : Int} (b0 : 0 ≤ b) (b1 : b < h.r.length) : at' (moreH h).r b = at' h.r b := at_snoc_lt b0 b1
theorem more_rn : at' (moreH h).r (h.r.length : Int) = (h.e.length : Int) := at_snoc_eq
theorem more_row (hl : h.t.length = h.e.length) {i : Int} (i0 : 0 ≤ i) (i1 : i < h.e.length) : at' (moreH h).t i = at' h.t i ++ [(-1 : Int)] := by
  show at' ((h.t.map fun row => row ++ [(-1 : Int)]) ++ _) i = _
  rw [at_snoc_lt i0 (by rw [List.length_map]; omega), at_map (f := fun row : List Int => row ++ [(-1 : Int)]) i0 (by omega)]
theorem more_rowN (hl : h.t.length = h.e.length) : at' (moreH h).t (h.e.length : Int) = List.replicate h.e.length (-1) ++ [(h.e.length : Int)] := by
  have e : (h.e.length : Int) = ((h.t.map fun row => row ++ [(-1 : Int)]).length : Int) := by rw [List.length_map]; omega
  show at' ((h.t.map fun row => row ++ [(-1 : Int)]) ++ _) (h.e.length : Int) = _
  rw [e, at_snoc_eq]
end
end DL
namespace DL
open PySem L2
section
variable {h : HallT} (H : HallOk h)
include H
theorem more_tab {i j : Int} (i0 : 0 ≤ i) (i1 : i < h.e.length) (j0 : 0 ≤ j) (j1 : j < h.e.length) : at' (at' (moreH h).t i) j = at' (at' h.t i) j := by
  rw [more_row (tr_len (hall_table H)) i0 i1, at_snoc_lt j0 (by rw [tr_row (hall_table H) i0 i1]; exact j1)]
theorem more_tabR {i : Int} (i0 : 0 ≤ i) (i1 : i < h.e.length) : at' (at' (moreH h).t i) (h.e.length : Int) = -1 := by
  have hr := tr_row (hall_table H) i0 i1
  rw [more_row (tr_len (hall_table H)) i0 i1, ← hr, at_snoc_eq]
theorem more_tabD {j : Int} (j0 : 0 ≤ j) (j1 : j < h.e.length) : at' (at' (moreH h).t (h.e.length : Int)) j = -1 := by
  rw [more_rowN (tr_len (hall_table H)), at_snoc_lt j0 (by rw [List.length_replicate]; exact j1), all_at j0 j1]
theorem more_tabN : at' (at' (moreH h).t (h.e.length : Int)) (h.e.length : Int) = (h.e.length : Int) := by
  rw [more_rowN (tr_len (hall_table H))]
  have e : (h.e.length : Int) = ((List.replicate h.e.length (-1 : Int)).length : Int) := by rw [List.length_replicate]
  have q := at_snoc_eq (l := List.replicate h.e.length (-1 : Int)) (x := (h.e.length : Int))
  rw [List.length_replicate] at q
  exact q
end
end DL
namespace DL
open PySem L2
section
variable {h : HallT} (H : HallOk h)
include H
theorem more_case {P : Int → Prop} (h1 : ∀ i : Int, 0 ≤ i → i < h.e.length → P i) (h2 : P (h.e.length : Int)) : ∀ k : Nat, k < (moreH h).e.length → P (k : Int) := fun k hk => by
  rw [more_el] at hk
  by_cases q : k < h.e.length
  · exact h1 _ (by omega) (by omega)
  · have e : (k : Int) = (h.e.length : Int) := by omega
    rw [e]
    exact h2
theorem more_ends : endsRight (moreH h).e ((moreH h).r.length : Int) = true := by
  unfold endsRight
  rw [List.all_eq_true]
  intro p hp
  have e : p ∈ h.e ∨ p = ((h.r.length : Int), (h.r.length : Int)) := by
    have hp' : p ∈ h.e ++ [((h.r.length : Int), (h.r.length : Int))] := hp
    rcases List.mem_append.mp hp' with q | q
    · exact .inl q
    · exact .inr (List.mem_singleton.mp q)
  rw [more_rl]
  unfold endBad
  simp only [Bool.not_eq_true', Bool.or_eq_false_iff, decide_eq_false_iff_not]
  rcases e with e | e
  · obtain ⟨k, hk, e2⟩ := List.getElem_of_mem e
    have := ends_of H (i := (k : Int)) (by omega) (by omega)
    rw [at_get hk, e2] at this
    omega
  · rw [e]
    dsimp only
    omega
theorem more_made : ∀ i j : Nat, i < (moreH h).e.length → j < (moreH h).e.length → madeRight (moreH h).e (i : Int) (j : Int) (at' (at' (moreH h).t (i : Int)) (j : Int)) = true := by
  intro i j hi hj
  refine more_case H (P := fun i => madeRight (moreH h).e i (j : Int) (at' (at' (moreH h).t i) (j : Int)) = true) (fun i i0 i1 => ?_) ?_ i hi
  · refine more_case H (P := fun j => madeRight (moreH h).e i j (at' (at' (moreH h).t i) j) = true) (fun j j0 j1 => ?_) ?_ j hj
    · apply made_mk
      rw [more_e i0 i1, more_e j0 j1, more_tab H i0 i1 j0 j1]
      rcases made_of (tr_made (hall_table H) i0 i1 j0 j1) with q | q
      · exact .inl q
      · exact .inr ⟨q.1, q.2.1, by rw [more_el]; have := q.2.2.1; omega, by rw [more_e q.2.1 q.2.2.1]; exact q.2.2.2⟩
    · apply made_mk
      rw [more_e i0 i1, more_en, more_tabR H i0 i1]
      have := ends_of H i0 i1
      exact .inl ⟨by dsimp only; omega, rfl⟩
  · refine more_case H (P := fun j => madeRight (moreH h).e (h.e.length : Int) j (at' (at' (moreH h).t (h.e.length : Int)) j) = true) (fun j j0 j1 => ?_) ?_ j hj
    · apply made_mk
      rw [more_en, more_e j0 j1, more_tabD H j0 j1]
      have := ends_of H j0 j1
      exact .inl ⟨by dsimp only; omega, rfl⟩
    · apply made_mk
      rw [more_en, more_tabN H]
      exact .inr ⟨rfl, by omega, by rw [more_el]; omega, by rw [more_en]⟩
end
end DL
namespace DL
open PySem L2
section
variable {h : HallT} (H : HallOk h)
include H
theorem more_table : tableRight (moreH h).e (moreH h).t = true := by
  have hl := tr_len (hall_table H)
  have tl : (moreH h).t.length = h.e.length + 1 := by unfold moreH; simp [hl]
  have rl : ∀ i : Nat, i < (moreH h).e.length → (at' (moreH h).t (i : Int)).length = h.e.length + 1 := more_case H (P := fun i => (at' (moreH h).t i).length = h.e.length + 1) (fun i i0 i1 => by rw [more_row hl i0 i1, List.length_append, tr_row (hall_table H) i0 i1]; rfl) (by rw [more_rowN hl, List.length_append, List.length_replicate]; rfl)
  unfold tableRight
  rw [Bool.and_eq_true, decide_eq_true_eq, DL.all_range, tl, more_el]
  refine ⟨rfl, fun i hi => ?_⟩
  unfold rowRight
  rw [Bool.and_eq_true, decide_eq_true_eq, DL.all_range, rl i (by rw [more_el]; exact hi), more_el]
  exact ⟨rfl, fun j hj => more_made H i j (by rw [more_el]; exact hi) (by rw [more_el]; exact hj)⟩
end
end DL
namespace DL
open PySem L2
section
variable {h : HallT} (H : HallOk h)
include H
theorem more_rests : restsRight (moreH h).e (moreH h).r (moreH h).t = true := by
  unfold restsRight
  rw [DL.all_range, more_rl]
  intro b hb
  unfold restRight
  rw [Bool.and_eq_true, DL.all_range]
  by_cases q : b < h.r.length
  · obtain ⟨⟨r0, r1⟩, r2, r3⟩ := rest_of H (b := (b : Int)) (by omega) (by omega)
    rw [more_r (by omega) (by omega)]
    refine ⟨?_, fun a ha => ?_⟩
    · simp only [Bool.not_eq_true', Bool.or_eq_false_iff, decide_eq_false_iff_not, Bool.not_eq_false', more_el]
      refine ⟨by omega, by omega, ?_⟩
      rw [eqT_iff, more_e r0 r1, r2]
    · unfold restArrow
      refine more_case H (P := fun a => (!(decide ((at' (moreH h).e a).1 = (b : Int)) && !decide (at' (at' (moreH h).t (at' h.r (b : Int))) a = a)) && !(decide ((at' (moreH h).e a).2 = (b : Int)) && !decide (at' (at' (moreH h).t a) (at' h.r (b : Int)) = a))) = true) (fun a a0 a1 => ?_) ?_ a ha
      · rw [more_e a0 a1, more_tab H r0 r1 a0 a1, more_tab H a0 a1 r0 r1]
        obtain ⟨x, y⟩ := r3 a a0 a1
        by_cases u : (at' h.e a).1 = (b : Int) <;> by_cases v : (at' h.e a).2 = (b : Int) <;> simp [u, v, x, y]
      · rw [more_en]
        have : ¬ (h.r.length : Int) = (b : Int) := by omega
        simp [this]
  · have e : (b : Int) = (h.r.length : Int) := by omega
    rw [e, more_rn]
    refine ⟨?_, fun a ha => ?_⟩
    · simp only [Bool.not_eq_true', Bool.or_eq_false_iff, decide_eq_false_iff_not, Bool.not_eq_false', more_el]
      refine ⟨by omega, by omega, ?_⟩
      rw [eqT_iff, more_en]
    · unfold restArrow
      refine more_case H (P := fun a => (!(decide ((at' (moreH h).e a).1 = (h.r.length : Int)) && !decide (at' (at' (moreH h).t (h.e.length : Int)) a = a)) && !(decide ((at' (moreH h).e a).2 = (h.r.length : Int)) && !decide (at' (at' (moreH h).t a) (h.e.length : Int) = a))) = true) (fun a a0 a1 => ?_) ?_ a ha
      · rw [more_e a0 a1]
        have := ends_of H a0 a1
        have n1 : ¬ (at' h.e a).1 = (h.r.length : Int) := by omega
        have n2 : ¬ (at' h.e a).2 = (h.r.length : Int) := by omega
        simp [n1, n2]
      · rw [more_tabN H]
        simp
end
end DL
namespace DL
open PySem L2
section
variable {h : HallT} (H : HallOk h)
include H
theorem more_threes : threesRight (moreH h).e (moreH h).t = true := by
  have hn : ¬ (0 : Int) ≤ -1 := by decide
  unfold threesRight
  rw [DL.all_range]
  intro i hi
  rw [DL.all_range]
  intro j hj
  unfold twoRight
  rw [Bool.or_eq_true, DL.all_range]
  by_cases m0 : 0 ≤ at' (at' (moreH h).t (i : Int)) (j : Int)
  · refine .inr fun k hk => ?_
    unfold threeRight
    rw [more_el] at hi hj hk
    by_cases l0 : 0 ≤ at' (at' (moreH h).t (j : Int)) (k : Int)
    · rw [decide_eq_true l0, Bool.true_and, Bool.not_not, decide_eq_true_eq]
      by_cases ji : j < h.e.length
      · have ii : i < h.e.length := by
          by_cases q : i < h.e.length
          · exact q
          · have e : (i : Int) = (h.e.length : Int) := by omega
            rw [e, more_tabD H (by omega) (by omega)] at m0
            exact absurd m0 hn
        have ki : k < h.e.length := by
          by_cases q : k < h.e.length
          · exact q
          · have e : (k : Int) = (h.e.length : Int) := by omega
            rw [e, more_tabR H (by omega) (by omega)] at l0
            exact absurd l0 hn
        rw [more_tab H (i := (i : Int)) (j := (j : Int)) (by omega) (by omega) (by omega) (by omega)] at m0 ⊢
        rw [more_tab H (i := (j : Int)) (j := (k : Int)) (by omega) (by omega) (by omega) (by omega)] at l0 ⊢
        have m1 := tr_lt (hall_table H) (i := (i : Int)) (j := (j : Int)) (by omega) (by omega) (by omega) (by omega)
        have l1 := tr_lt (hall_table H) (i := (j : Int)) (j := (k : Int)) (by omega) (by omega) (by omega) (by omega)
        rw [more_tab H m0 m1 (by omega) (by omega), more_tab H (by omega) (by omega) l0 l1]
        exact threes_of (hall_parts H).2.2.2.2 (by omega) (by omega) (by omega) (by omega) (by omega) (by omega) m0 l0
      · have ej : (j : Int) = (h.e.length : Int) := by omega
        rw [ej] at m0 l0 ⊢
        have ei : (i : Int) = (h.e.length : Int) := by
          by_cases q : i < h.e.length
          · rw [more_tabR H (by omega) (by omega)] at m0
            exact absurd m0 hn
          · omega
        have ek : (k : Int) = (h.e.length : Int) := by
          by_cases q : k < h.e.length
          · rw [more_tabD H (by omega) (by omega)] at l0
            exact absurd l0 hn
          · omega
        rw [ei, ek, more_tabN H, more_tabN H]
    · rw [decide_eq_false l0]
      rfl
  · exact .inl (by rw [decide_eq_false m0]; rfl)
theorem more_hall (he : h.e.length ≤ 39) (hr : h.r.length ≤ 5) : HallOk (moreH h) := by
  unfold HallOk hallRight
  rw [if_neg (by simp only [Bool.or_eq_true, decide_eq_true_eq, more_el, more_rl]; omega), more_ends H, more_table H, if_neg (by decide), more_rests H, more_threes H]
  rfl
end
end DL

namespace Law
open PySem L2 DL
local macro_rules | `(tactic| walk_at "side") => `(tactic| first | assumption | omega | decide | exact ⟨by decide, by decide⟩ | exact .inr ⟨by decide, by decide⟩ | skip)
local macro_rules | `(tactic| walk_at "nx") => `(tactic| first
  | (apply nx_tup2; walk_at "ev"; walk_at "ev") | (apply nx_tup3; walk_at "ev"; walk_at "ev"; walk_at "ev")
  | exact nx_nil | (apply nx_one; walk_at "ev") | (apply nx_two; walk_at "ev"; walk_at "ev")
  | (apply nx_lst; walk_at "la"; decide)
  | (apply nx_list; walk_at "ev") | (apply nx_tupOf; walk_at "ev") | (apply nx_cat; walk_at "ev"; walk_at "ev"; walk_at "side"))
local macro_rules | `(tactic| walk_at "ev") => `(tactic| first
  | exact tx_int | exact bx_bl | exact tea_nil | (apply tx_var; rfl) | (apply bx_var; rfl)
  | (apply tea_cons; walk_at "ev"; walk_at "ev")
  | (apply tx_add; walk_at "ev"; walk_at "ev") | (apply tx_sub; walk_at "ev"; walk_at "ev") | (apply tx_neg; walk_at "ev")
  | (apply tx_mul; walk_at "ev"; walk_at "ev"; walk_at "side") | (apply tx_div; walk_at "ev"; walk_at "ev"; walk_at "side") | (apply tx_mod; walk_at "ev"; walk_at "ev"; walk_at "side") | (apply tx_pow; walk_at "ev"; walk_at "ev"; walk_at "side")
  | (apply tx_fst; walk_at "ev") | (apply tx_snd; walk_at "ev") | (apply tx_tri0; walk_at "ev") | (apply tx_tri1; walk_at "ev") | (apply tx_tri2; walk_at "ev")
  | (apply tx_q0; walk_at "px") | (apply tx_q1; walk_at "px") | (apply tx_q2; walk_at "px") | (apply tx_q3; walk_at "px") | (apply tx_q4; walk_at "px")
  | (apply tx_l0; walk_at "ev") | (apply tx_l1; walk_at "ev")
  | (apply bx_lstL; walk_at "ev") | (apply bx_intI; walk_at "ev") | (apply bx_intB; walk_at "ev") | (apply bx_boolB; walk_at "ev")
  | (apply tx_p0; walk_at "ev") | (apply tx_p1; walk_at "ev") | (apply tx_p2; walk_at "ev") | (apply tx_p3; walk_at "ev") | (apply tx_p4; walk_at "ev")
  | (apply tx_ends (by assumption); walk_at "hx") | (apply tx_rests (by assumption); walk_at "hx") | (apply tx_table (by assumption); walk_at "hx") | (apply bx_isH (by assumption); walk_at "hx")
  | (apply tx_lenS; apply ex_var; rfl) | (apply tx_len; walk_at "ev")
  | (apply tx_max2; walk_at "ev"; walk_at "ev")
  | (apply tx_ixO; rfl; walk_at "ev"; walk_at "side"; walk_at "side")
  | (apply tx_ixS; (apply ex_var; rfl); walk_at "ev"; walk_at "side"; walk_at "side")
  | (apply tx_ix; walk_at "ev"; walk_at "ev"; walk_at "side"; walk_at "side")
  | (apply tx_ixT; walk_at "ev"; walk_at "ev"; walk_at "side"; walk_at "side")
  | (apply bx_lt; walk_at "ev"; walk_at "ev") | (apply bx_le; walk_at "ev"; walk_at "ev") | (apply bx_gt; walk_at "ev"; walk_at "ev") | (apply bx_ge; walk_at "ev"; walk_at "ev")
  | (apply bx_eq; walk_at "ev"; walk_at "ev") | (apply bx_ne; walk_at "ev"; walk_at "ev")
  | (apply bx_eqT; walk_at "ev"; walk_at "ev"; decide) | (apply bx_neT; walk_at "ev"; walk_at "ev"; decide)
  | (apply bx_inT; walk_at "ev"; walk_at "ev"; decide) | (apply bx_ninT; walk_at "ev"; walk_at "ev"; decide)
  | (apply bx_leLt; walk_at "ev"; walk_at "ev"; walk_at "ev") | (apply bx_leLe; walk_at "ev"; walk_at "ev"; walk_at "ev")
  | (apply bx_not; walk_at "ev")
  | (apply et_or; walk_at "ev"; walk_at "evs") | (apply et_and; walk_at "ev"; walk_at "evs") | (apply bx_or; walk_at "ev"; walk_at "evs") | (apply bx_and; walk_at "ev"; walk_at "evs")
  | (apply ett; walk_at "ev") | (apply etB; walk_at "ev") | (apply et_not; walk_at "ev")
  | walk_at "nx" | (apply NX.tx; walk_at "nx"))
local macro_rules | `(tactic| walk_at "la") => `(tactic| first | exact la_nil | (apply la_tx; walk_at "ev"; walk_at "la"))
local macro_rules | `(tactic| walk_at "evs") => `(tactic| (intro hx; (try simp only [Bool.not_eq_true', Bool.not_eq_false', Bool.or_eq_false_iff, Bool.and_eq_true, decide_eq_true_eq, decide_eq_false_iff_not, Int.not_lt, Int.not_le] at hx); walk_at "ev"))
local macro_rules | `(tactic| walk_at "if") => `(tactic| (apply run_if; walk_at "ev"))
local macro_rules | `(tactic| walk_at "retB") => `(tactic| (apply run_retB; walk_at "ev"))
local macro_rules | `(tactic| walk_at "hx") => `(tactic| (apply hx_var; rfl))
local macro_rules | `(tactic| walk_at "px") => `(tactic| (apply px_var; rfl))
def top (i : Nat) : Stmt := PySem.Challenge.pw_arrowhall_k09_readings_looked_at.main.body.getD i (.Pass ⟨0, 0, 0, 0⟩)
abbrev s_ends_right : Stmt := top 6
abbrev s_made_right : Stmt := top 7
abbrev s_table_right : Stmt := top 8
abbrev s_rests_right : Stmt := top 9
abbrev s_threes_right : Stmt := top 10
abbrev s_hall_right : Stmt := top 11
abbrev s_Hall_init : Stmt := inClass (top 12) 0
abbrev s_lists_right : Stmt := top 15
abbrev s_is_reading : Stmt := top 16
abbrev s_law_cell : Stmt := top 18
abbrev s_law_next : Stmt := top 19
abbrev s_law_sizes : Stmt := top 20
abbrev s_law_closed : Stmt := top 21
abbrev s_law_arrows : Stmt := top 22
abbrev s_law_parts : Stmt := top 23
abbrev s_law_copy : Stmt := top 24
abbrev s_law_hall : Stmt := top 25
abbrev s_law_between : Stmt := top 26
abbrev s_law_reading_of : Stmt := top 27
abbrev s_law_out : Stmt := top 28
abbrev s_law_beside : Stmt := top 29
abbrev s_law_drawn_reading : Stmt := top 30
abbrev s_law_good : Stmt := top 31
abbrev s_law_spoilt : Stmt := top 32
abbrev s_law : Stmt := top 33
/-- what the top has left -/
structure Top (c : Cfg) (mg : Str → Option Value) : Prop where
  hall : HallTxt c
  isa : IsaTxt c
  g_Hall : mg "Hall" = some (.ref c.C)
  i_Hall : ∃ f fd, Fun c.K "__init__" "Hall.__init__" s_Hall_init f fd ∧ Mk c.K c.C f
  d_ends_right : DefAt c mg "ends_right" s_ends_right
  d_made_right : DefAt c mg "made_right" s_made_right
  d_table_right : DefAt c mg "table_right" s_table_right
  d_rests_right : DefAt c mg "rests_right" s_rests_right
  d_threes_right : DefAt c mg "threes_right" s_threes_right
  d_hall_right : DefAt c mg "hall_right" s_hall_right
  d_lists_right : DefAt c mg "lists_right" s_lists_right
  d_is_reading : DefAt c mg "is_reading" s_is_reading
  d_law_cell : DefAt c mg "_law_cell" s_law_cell
  d_law_next : DefAt c mg "_law_next" s_law_next
  d_law_sizes : DefAt c mg "_law_sizes" s_law_sizes
  d_law_closed : DefAt c mg "_law_closed" s_law_closed
  d_law_arrows : DefAt c mg "_law_arrows" s_law_arrows
  d_law_parts : DefAt c mg "_law_parts" s_law_parts
  d_law_copy : DefAt c mg "_law_copy" s_law_copy
  d_law_hall : DefAt c mg "_law_hall" s_law_hall
  d_law_between : DefAt c mg "_law_between" s_law_between
  d_law_reading_of : DefAt c mg "_law_reading_of" s_law_reading_of
  d_law_out : DefAt c mg "_law_out" s_law_out
  d_law_beside : DefAt c mg "_law_beside" s_law_beside
  d_law_drawn_reading : DefAt c mg "_law_drawn_reading" s_law_drawn_reading
  d_law_good : DefAt c mg "_law_good" s_law_good
  d_law_spoilt : DefAt c mg "_law_spoilt" s_law_spoilt
  d_law : DefAt c mg "law" s_law
  c_MOST_BOXES : ∃ t, mg "MOST_BOXES" = some (.int 6 t)
  c_MOST_ARROWS : ∃ t, mg "MOST_ARROWS" = some (.int 40 t)
  c_MOST_THINGS : ∃ t, mg "MOST_THINGS" = some (.int 40 t)
  b_bool : mg "bool" = none
  b_isinstance : mg "isinstance" = none
  b_len : mg "len" = none
  b_list : mg "list" = none
  b_max : mg "max" = none
  b_range : mg "range" = none
  b_tuple : mg "tuple" = none
  b_zip : mg "zip" = none
def sp_ends_right (c : Cfg) : Sp := spF c (ι := EndsT × Int) (fun x => [dat x.1, dat x.2]) (fun _ => True) 0 (fun x => .bl (endsRight x.1 x.2))
theorem len_ends_right (c : Cfg) : ∀ vs H Q E, sp_ends_right c vs H Q E → vs.length = 2 := spF_len fun _ => rfl

def sn_ends_right : List Str := ["ends", "boxes", "one", "other"]
theorem sc_ends_right : FnScope sn_ends_right ["ends", "boxes"] (defScope s_ends_right) := ⟨rfl, rfl, rfl, by decide +kernel, rfl, by decide +kernel, by decide +kernel⟩
def t_ends_right (c : Cfg) : TS :=
  (tSeq (tFor (iList c.K (tVar 0)) (gTup c.K 2 (gCons (gName 2) (gCons (gName 3) gNil)))
      (tIfS (tOr (tTest (tOp zLt (tVar 2) (tC (.int 0)))) (tOr (tTest (tOp zGe (tVar 2) (tVar 1))) (tOr (tTest (tOp zLt (tVar 3) (tC (.int 0)))) (tTest (tOp zGe (tVar 3) (tVar 1))))))
      (tRet (tC (.bl false)))
      tNext))
    (tRet (tC (.bl true))))

theorem run_ends_right (c : Cfg) : ∀ vs H Q E, sp_ends_right c vs H Q E → t_ends_right c { nx := fun _ H' => Q .non H', rt := Q } (L2.start sn_ends_right vs) H := by
  refine fn_run (ρ0 := fun x => [some (0, dat x.1), some (0, dat x.2), none, none]) (fun _ => rfl) (fun _ => Nat.le_of_ble_eq_true rfl) ?_
  rintro ⟨e, n⟩ _
  apply run_seq
  refine run_allL e (endBad n) (fun ρ' => ∃ a b, ρ' = [some (0, dat e), some (0, dat n), a, b]) (tx_var rfl) (fun _ => gt_pair) ⟨_, _, rfl⟩ ?_ ?_
  · rintro p ρ' _ ⟨a, b, rfl⟩
    dsimp only [List.set]
    walk_at "if"
    · intro hb
      walk_at "retB"
      exact ⟨hb, fun h => ⟨rfl, by unfold endsRight; rw [h]⟩⟩
    · intro hb
      exact run_next ⟨hb, _, _, rfl⟩
  · rintro ρ' h ⟨a, b, rfl⟩
    walk_at "retB"
    exact ⟨rfl, by unfold endsRight; rw [h]⟩

theorem d_ends_right {c : Cfg} {mg : Str → Option Value} {base : Heap} (T : Top c mg) (f : Addr) (cdv : Value) (A : Around) (outer : List PySem.Env) (s : Shared) (H : Hp) (E : XK) (hr : Room 0 (A.deeper (PyProof.Rows.envOfC "ends_right" (defScope s_ends_right) s.heap.objs.size f cdv))) :
    PSs (bodyCx c mg base sn_ends_right "ends_right" s_ends_right f cdv A outer s H E) (defBody s_ends_right) (t_ends_right c) := by
  have nd := sc_ends_right.nd
  exact pss_cons (ps_for PassesOwn.never rfl (pi_list (pv 0)) (pg_tup rfl (pgs_cons (pg_name (i := 2) nd rfl (Or.inl rfl)) (pgs_cons (pg_name (i := 3) nd rfl (Or.inl rfl)) pgs_nil)))
      (pss_one (ps_if (PW.pt (pw_or (pt_cmpR o_lt (pv 2) (pe_int) (nomark _)) (pw_or (pt_cmpR o_ge (pv 2) (pv 1) (nomark _)) (pw_or (pt_cmpR o_lt (pv 3) (pe_int) (nomark _)) (pw_or1 (pt_cmpR o_ge (pv 3) (pv 1) (nomark _)))))))
      (pss_one (ps_ret (pe_bl)))
      (pss_nil))))
    (pss_one (ps_ret (pe_bl)))
theorem k_ends_right {c : Cfg} {mg : Str → Option Value} {base : Heap} (T : Top c mg) : Callee c mg base "ends_right" 1 ["ends", "boxes"] (sp_ends_right c) :=
  callee_of T.d_ends_right sc_ends_right (len_ends_right c) (fun _ _ _ _ _ _ us hl => match us, hl with | [_, _], _ => rfl) (fun f cdv A outer s H E hr => d_ends_right T f cdv A outer s H E hr) (run_ends_right c)
def sp_made_right (c : Cfg) : Sp := spF c (ι := EndsT × Int × Int × Int) (fun x => [dat x.1, dat x.2.1, dat x.2.2.1, dat x.2.2.2]) (fun x => (0 ≤ x.2.1 ∧ x.2.1 < x.1.length) ∧ 0 ≤ x.2.2.1 ∧ x.2.2.1 < x.1.length) 0 (fun x => .bl (madeRight x.1 x.2.1 x.2.2.1 x.2.2.2))
theorem len_made_right (c : Cfg) : ∀ vs H Q E, sp_made_right c vs H Q E → vs.length = 4 := spF_len fun _ => rfl

def sn_made_right : List Str := ["ends", "one", "other", "made"]
theorem sc_made_right : FnScope sn_made_right ["ends", "one", "other", "made"] (defScope s_made_right) := ⟨rfl, rfl, rfl, by decide +kernel, rfl, by decide +kernel, by decide +kernel⟩
def t_made_right (c : Cfg) : TS :=
  (tSeq (tIfS (tTest (tOp rNe (tOp (rIxT c.K) (tOp (rIxL c.K) (tVar 0) (tVar 1)) (tC (.int 1))) (tOp (rIxT c.K) (tOp (rIxL c.K) (tVar 0) (tVar 2)) (tC (.int 0)))))
      (tRet (tOp rEq (tVar 3) (tUn zNeg (tC (.int 1)))))
      tNext)
    (tSeq (tIfS (tOr (tTest (tOp zLt (tVar 3) (tC (.int 0)))) (tTest (tOp zGe (tVar 3) (tCB (lLen c.K) (tCons (tVar 0) tNil)))))
      (tRet (tC (.bl false)))
      tNext)
    (tRet (tOp (rEqD c.K) (tOp (rIxL c.K) (tVar 0) (tVar 3)) (tTup (tCons (tOp (rIxT c.K) (tOp (rIxL c.K) (tVar 0) (tVar 1)) (tC (.int 0))) (tCons (tOp (rIxT c.K) (tOp (rIxL c.K) (tVar 0) (tVar 2)) (tC (.int 1))) tNil)))))))

theorem run_made_right (c : Cfg) : ∀ vs H Q E, sp_made_right c vs H Q E → t_made_right c { nx := fun _ H' => Q .non H', rt := Q } (L2.start sn_made_right vs) H := by
  refine fn_run (ρ0 := fun x => [some (0, dat x.1), some (0, dat x.2.1), some (0, dat x.2.2.1), some (0, dat x.2.2.2)]) (fun _ => rfl) (fun _ => Nat.le_of_ble_eq_true rfl) ?_
  rintro ⟨e, one, other, made⟩ ⟨⟨h0, h1⟩, h2, h3⟩
  dsimp only at h0 h1 h2 h3 ⊢
  apply run_seq
  apply run_if
  · walk_at "ev"
  · intro hb
    apply run_retB
    · walk_at "ev"
    · refine ⟨rfl, ?_⟩
      unfold madeRight
      rw [if_pos hb]
  · intro hb
    apply run_next
    apply run_seq
    apply run_if
    · apply et_or
      · walk_at "ev"
      · intro _
        walk_at "ev"
    · intro hc
      apply run_retB
      · walk_at "ev"
      · refine ⟨rfl, ?_⟩
        unfold madeRight
        rw [if_neg (by rw [hb]; decide), if_pos hc]
    · intro hc
      apply run_next
      rw [Bool.or_eq_false_iff, decide_eq_false_iff_not, decide_eq_false_iff_not] at hc
      apply run_retB
      · have h4 : 0 ≤ made := by omega
        have h5 : made < e.length := by omega
        walk_at "ev"
      · refine ⟨rfl, ?_⟩
        unfold madeRight
        rw [if_neg (by rw [hb]; decide), if_neg (by rw [Bool.or_eq_true, decide_eq_true_eq, decide_eq_true_eq]; omega)]

theorem d_made_right {c : Cfg} {mg : Str → Option Value} {base : Heap} (T : Top c mg) (f : Addr) (cdv : Value) (A : Around) (outer : List PySem.Env) (s : Shared) (H : Hp) (E : XK) (hr : Room 0 (A.deeper (PyProof.Rows.envOfC "made_right" (defScope s_made_right) s.heap.objs.size f cdv))) :
    PSs (bodyCx c mg base sn_made_right "made_right" s_made_right f cdv A outer s H E) (defBody s_made_right) (t_made_right c) := by
  have nd := sc_made_right.nd
  exact pss_cons (ps_if (pt_cmpR op_ne (pe_ix ix_tup (pe_ix ix_list (pv 0) (pv 1) (fun _ _ => rfl)) (pe_int) (fun _ _ => rfl)) (pe_ix ix_tup (pe_ix ix_list (pv 0) (pv 2) (fun _ _ => rfl)) (pe_int) (fun _ _ => rfl)) (nomark _))
      (pss_one (ps_ret (pe_cmpR op_eq (pv 3) (pe_un u_neg (pe_int)) (nomark _))))
      (pss_nil))
    (pss_cons (ps_if (PW.pt (pw_or (pt_cmpR o_lt (pv 3) (pe_int) (nomark _)) (pw_or1 (pt_cmpR o_ge (pv 3) (pe_callB c_len (by rfl) T.b_len PySem.boot_len (pa_cons (pv 0) pa_nil)) (nomark _)))))
      (pss_one (ps_ret (pe_bl)))
      (pss_nil))
    (pss_one (ps_ret (pe_cmpR (op_eqD hr.units) (pe_ix ix_list (pv 0) (pv 3) (fun _ _ => rfl)) (pe_tup (pa_cons (pe_ix ix_tup (pe_ix ix_list (pv 0) (pv 1) (fun _ _ => rfl)) (pe_int) (fun _ _ => rfl)) (pa_cons (pe_ix ix_tup (pe_ix ix_list (pv 0) (pv 2) (fun _ _ => rfl)) (pe_int) (fun _ _ => rfl)) pa_nil))) (nomark _)))))
theorem k_made_right {c : Cfg} {mg : Str → Option Value} {base : Heap} (T : Top c mg) : Callee c mg base "made_right" 1 ["ends", "one", "other", "made"] (sp_made_right c) :=
  callee_of T.d_made_right sc_made_right (len_made_right c) (fun _ _ _ _ _ _ us hl => match us, hl with | [_, _, _, _], _ => rfl) (fun f cdv A outer s H E hr => d_made_right T f cdv A outer s H E hr) (run_made_right c)
def sp_table_right (c : Cfg) : Sp := spF c (ι := EndsT × TableT) (fun x => [dat x.1, dat x.2]) (fun x => x.1.length ≤ 100000) 0 (fun x => .bl (tableRight x.1 x.2))
theorem len_table_right (c : Cfg) : ∀ vs H Q E, sp_table_right c vs H Q E → vs.length = 2 := spF_len fun _ => rfl

def sn_table_right : List Str := ["ends", "table", "one", "other"]
theorem sc_table_right : FnScope sn_table_right ["ends", "table"] (defScope s_table_right) := ⟨rfl, rfl, rfl, by decide +kernel, rfl, by decide +kernel, by decide +kernel⟩
def t_table_right (c : Cfg) : TS :=
  (tSeq (tIfS (tTest (tOp rNe (tCB (lLen c.K) (tCons (tVar 1) tNil)) (tCB (lLen c.K) (tCons (tVar 0) tNil))))
      (tRet (tC (.bl false)))
      tNext)
    (tSeq (tFor (iRng1 (tCons (tCB (lLen c.K) (tCons (tVar 0) tNil)) tNil)) (gName 2)
      (tSeq (tIfS (tTest (tOp rNe (tCB (lLen c.K) (tCons (tOp (rIxL c.K) (tVar 1) (tVar 2)) tNil)) (tCB (lLen c.K) (tCons (tVar 0) tNil))))
      (tRet (tC (.bl false)))
      tNext)
    (tFor (iRng1 (tCons (tCB (lLen c.K) (tCons (tVar 0) tNil)) tNil)) (gName 3)
      (tIfS (tNot (tB (tCall (sp_made_right c) [] E0 (tCons (tVar 0) (tCons (tVar 2) (tCons (tVar 3) (tCons (tOp (rIxL c.K) (tOp (rIxL c.K) (tVar 1) (tVar 2)) (tVar 3)) tNil)))))))
      (tRet (tC (.bl false)))
      tNext))))
    (tRet (tC (.bl true)))))

theorem run_table_right (c : Cfg) : ∀ vs H Q E, sp_table_right c vs H Q E → t_table_right c { nx := fun _ H' => Q .non H', rt := Q } (L2.start sn_table_right vs) H := by
  refine fn_run (ρ0 := fun x => [some (0, dat x.1), some (0, dat x.2), none, none]) (fun _ => rfl) (fun _ => Nat.le_of_ble_eq_true rfl) ?_
  rintro ⟨e, t⟩ hl
  dsimp only at hl ⊢
  apply run_seq
  walk_at "if"
  · intro hb
    walk_at "retB"
    exact ⟨rfl, by unfold tableRight; simp only [Bool.not_eq_true'] at hb; rw [hb]; rfl⟩
  · intro hb
    simp only [Bool.not_eq_false'] at hb
    have hb' := of_decide_eq_true hb
    apply run_next
    apply run_seq
    apply run_allR (m := e.length) (fun i => !rowRight e t i) (fun ρ' => ∃ a b, ρ' = [some (0, dat e), some (0, dat t), a, b]) (by walk_at "ev") rfl hl ⟨_, _, rfl⟩
    · rintro i ρ' hi ⟨a, b, rfl⟩
      dsimp only [List.set]
      apply run_seq
      walk_at "if"
      · intro hc
        walk_at "retB"
        refine ⟨?_, fun h => ⟨rfl, ?_⟩⟩
        · unfold rowRight
          simp only [Bool.not_eq_true'] at hc
          rw [hc]
          rfl
        · unfold tableRight
          simp only [Bool.not_not] at h
          rw [hb, h]
          rfl
      · intro hc
        simp only [Bool.not_eq_false'] at hc
        have hc' := of_decide_eq_true hc
        apply run_next
        apply run_allR (m := e.length) (fun j => !madeRight e (i : Int) (j : Int) (at' (at' t (i : Int)) (j : Int))) (fun ρ' => ∃ b, ρ' = [some (0, dat e), some (0, dat t), some (0, dat (i : Int)), b]) (by walk_at "ev") rfl hl ⟨_, rfl⟩
        · rintro j ρ' hj ⟨b, rfl⟩
          dsimp only [List.set]
          apply run_if
          · apply et_not
            apply etB
            refine bx_call (e, (i : Int), (j : Int), at' (at' t (i : Int)) (j : Int)) ?_ ⟨⟨by dsimp only; omega, by dsimp only; omega⟩, by dsimp only; omega, by dsimp only; omega⟩
            walk_at "ev"
          · intro hd
            walk_at "retB"
            refine ⟨hd, fun h => ⟨?_, fun h2 => ⟨rfl, ?_⟩⟩⟩
            · unfold rowRight
              simp only [Bool.not_not] at h
              rw [hc, h]
              rfl
            · unfold tableRight
              simp only [Bool.not_not] at h2
              rw [hb, h2]
              rfl
          · intro hd
            exact run_next ⟨hd, _, rfl⟩
        · rintro ρ' h ⟨b, rfl⟩
          refine ⟨?_, _, _, rfl⟩
          unfold rowRight
          simp only [Bool.not_not] at h
          rw [hc, h]
          rfl
    · rintro ρ' h ⟨a, b, rfl⟩
      walk_at "retB"
      refine ⟨rfl, ?_⟩
      unfold tableRight
      simp only [Bool.not_not] at h
      rw [hb, h]
      rfl

theorem d_table_right {c : Cfg} {mg : Str → Option Value} {base : Heap} (T : Top c mg) (c_made_right : Callee c mg base "made_right" 1 ["ends", "one", "other", "made"] (sp_made_right c)) (f : Addr) (cdv : Value) (A : Around) (outer : List PySem.Env) (s : Shared) (H : Hp) (E : XK) (hr : Room 1 (A.deeper (PyProof.Rows.envOfC "table_right" (defScope s_table_right) s.heap.objs.size f cdv))) :
    PSs (bodyCx c mg base sn_table_right "table_right" s_table_right f cdv A outer s H E) (defBody s_table_right) (t_table_right c) := by
  have nd := sc_table_right.nd
  exact pss_cons (ps_if (pt_cmpR op_ne (pe_callB c_len (by rfl) T.b_len PySem.boot_len (pa_cons (pv 1) pa_nil)) (pe_callB c_len (by rfl) T.b_len PySem.boot_len (pa_cons (pv 0) pa_nil)) (nomark _))
      (pss_one (ps_ret (pe_bl)))
      (pss_nil))
    (pss_cons (ps_for PassesOwn.never rfl (pi_range1 (by rfl) T.b_range (pa_cons (pe_callB c_len (by rfl) T.b_len PySem.boot_len (pa_cons (pv 0) pa_nil)) pa_nil)) (pg_name (i := 2) nd rfl (Or.inl rfl))
      (pss_cons (ps_if (pt_cmpR op_ne (pe_callB c_len (by rfl) T.b_len PySem.boot_len (pa_cons (pe_ix ix_list (pv 1) (pv 2) (fun _ _ => rfl)) pa_nil)) (pe_callB c_len (by rfl) T.b_len PySem.boot_len (pa_cons (pv 0) pa_nil)) (nomark _))
      (pss_one (ps_ret (pe_bl)))
      (pss_nil))
    (pss_one (ps_for PassesOwn.never rfl (pi_range1 (by rfl) T.b_range (pa_cons (pe_callB c_len (by rfl) T.b_len PySem.boot_len (pa_cons (pv 0) pa_nil)) pa_nil)) (pg_name (i := 3) nd rfl (Or.inl rfl))
      (pss_one (ps_if (pt_not (pt_val (pe_callD c_made_right rfl rfl rfl (hr.mono (by decide)) (by rfl) (pa_cons (pv 0) (pa_cons (pv 2) (pa_cons (pv 3) (pa_cons (pe_ix ix_list (pe_ix ix_list (pv 1) (pv 2) (fun _ _ => rfl)) (pv 3) (fun _ _ => rfl)) pa_nil)))))))
      (pss_one (ps_ret (pe_bl)))
      (pss_nil)))))))
    (pss_one (ps_ret (pe_bl))))
theorem k_table_right {c : Cfg} {mg : Str → Option Value} {base : Heap} (T : Top c mg) (c_made_right : Callee c mg base "made_right" 1 ["ends", "one", "other", "made"] (sp_made_right c)) : Callee c mg base "table_right" 2 ["ends", "table"] (sp_table_right c) :=
  callee_of T.d_table_right sc_table_right (len_table_right c) (fun _ _ _ _ _ _ us hl => match us, hl with | [_, _], _ => rfl) (fun f cdv A outer s H E hr => d_table_right T c_made_right f cdv A outer s H E hr) (run_table_right c)
def sp_rests_right (c : Cfg) : Sp := spF c (ι := EndsT × List Int × TableT) (fun x => [dat x.1, dat x.2.1, dat x.2.2]) (fun x => x.1.length ≤ 100000 ∧ x.2.1.length ≤ 100000 ∧ tableRight x.1 x.2.2 = true) 0 (fun x => .bl (restsRight x.1 x.2.1 x.2.2))
theorem len_rests_right (c : Cfg) : ∀ vs H Q E, sp_rests_right c vs H Q E → vs.length = 3 := spF_len fun _ => rfl

def sn_rests_right : List Str := ["ends", "rests", "table", "box", "rest", "arrow"]
theorem sc_rests_right : FnScope sn_rests_right ["ends", "rests", "table"] (defScope s_rests_right) := ⟨rfl, rfl, rfl, by decide +kernel, rfl, by decide +kernel, by decide +kernel⟩
def t_rests_right (c : Cfg) : TS :=
  (tSeq (tFor (iRng1 (tCons (tCB (lLen c.K) (tCons (tVar 1) tNil)) tNil)) (gName 3)
      (tSeq (tAsg (tOp (rIxL c.K) (tVar 1) (tVar 3)) (gName 4))
    (tSeq (tIfS (tOr (tTest (tOp zLt (tVar 4) (tC (.int 0)))) (tOr (tTest (tOp zGe (tVar 4) (tCB (lLen c.K) (tCons (tVar 0) tNil)))) (tTest (tOp (rNeD c.K) (tOp (rIxL c.K) (tVar 0) (tVar 4)) (tTup (tCons (tVar 3) (tCons (tVar 3) tNil)))))))
      (tRet (tC (.bl false)))
      tNext)
    (tFor (iRng1 (tCons (tCB (lLen c.K) (tCons (tVar 0) tNil)) tNil)) (gName 5)
      (tSeq (tIfS (tAnd (tTest (tOp rEq (tOp (rIxT c.K) (tOp (rIxL c.K) (tVar 0) (tVar 5)) (tC (.int 0))) (tVar 3))) (tTest (tOp rNe (tOp (rIxL c.K) (tOp (rIxL c.K) (tVar 2) (tVar 4)) (tVar 5)) (tVar 5))))
      (tRet (tC (.bl false)))
      tNext)
    (tIfS (tAnd (tTest (tOp rEq (tOp (rIxT c.K) (tOp (rIxL c.K) (tVar 0) (tVar 5)) (tC (.int 1))) (tVar 3))) (tTest (tOp rNe (tOp (rIxL c.K) (tOp (rIxL c.K) (tVar 2) (tVar 5)) (tVar 4)) (tVar 5))))
      (tRet (tC (.bl false)))
      tNext))))))
    (tRet (tC (.bl true))))

theorem run_rests_right (c : Cfg) : ∀ vs H Q E, sp_rests_right c vs H Q E → t_rests_right c { nx := fun _ H' => Q .non H', rt := Q } (L2.start sn_rests_right vs) H := by
  refine fn_run (ρ0 := fun x => [some (0, dat x.1), some (0, dat x.2.1), some (0, dat x.2.2), none, none, none]) (fun _ => rfl) (fun _ => Nat.le_of_ble_eq_true rfl) ?_
  rintro ⟨e, r, t⟩ ⟨hl, hl2, ht⟩
  dsimp only at hl hl2 ht ⊢
  have htl := tr_len ht
  apply run_seq
  apply run_allR (m := r.length) (fun i => !restRight e r t i) (fun ρ' => ∃ a b d, ρ' = [some (0, dat e), some (0, dat r), some (0, dat t), a, b, d]) (by walk_at "ev") rfl hl2 ⟨_, _, _, rfl⟩
  · rintro i ρ' hi ⟨a, b, d, rfl⟩
    dsimp only [List.set]
    apply run_seq
    apply run_setT
    · walk_at "ev"
    dsimp only [List.set]
    apply run_seq
    walk_at "if"
    · intro hc
      walk_at "retB"
      refine ⟨?_, fun h => ⟨rfl, ?_⟩⟩
      · unfold restRight
        rw [hc]
        rfl
      · unfold restsRight
        simp only [Bool.not_not] at h
        rw [h]
    · intro hc
      have hc' := hc
      simp only [Bool.or_eq_false_iff, decide_eq_false_iff_not, Int.not_lt, Int.not_le] at hc
      obtain ⟨h1, h2, _⟩ := hc
      have h3 := tr_row ht h1 h2
      apply run_next
      apply run_allR (m := e.length) (fun a => !restArrow e t (i : Int) (at' r (i : Int)) a) (fun ρ' => ∃ b, ρ' = [some (0, dat e), some (0, dat r), some (0, dat t), some (0, dat (i : Int)), some (0, dat (at' r (i : Int))), b]) (by walk_at "ev") rfl hl ⟨_, rfl⟩
      · rintro j ρ' hj ⟨b, rfl⟩
        have h4 := tr_row ht (i := (j : Int)) (by omega) (by omega)
        dsimp only [List.set]
        have fin : restArrow e t (i : Int) (at' r (i : Int)) j = false → (List.range e.length).all (fun i_1 => !(!restArrow e t (i : Int) (at' r (i : Int)) i_1)) = false → (!restRight e r t i) = true := fun _ h => by
          unfold restRight
          simp only [Bool.not_not] at h
          rw [h, hc']
          rfl
        have fin2 : (List.range r.length).all (fun i => !(!restRight e r t i)) = false → restsRight e r t = false := fun h => by
          unfold restsRight
          simp only [Bool.not_not] at h
          exact h
        apply run_seq
        walk_at "if"
        · intro hd
          walk_at "retB"
          have q : restArrow e t (i : Int) (at' r (i : Int)) j = false := by
            unfold restArrow
            rw [hd]
            rfl
          exact ⟨by rw [q]; rfl, fun h => ⟨fin q h, fun h2 => ⟨rfl, by rw [fin2 h2]⟩⟩⟩
        · intro hd
          apply run_next
          walk_at "if"
          · intro he
            walk_at "retB"
            have q : restArrow e t (i : Int) (at' r (i : Int)) j = false := by
              unfold restArrow
              rw [he, hd]
              rfl
            exact ⟨by rw [q]; rfl, fun h => ⟨fin q h, fun h2 => ⟨rfl, by rw [fin2 h2]⟩⟩⟩
          · intro he
            refine run_next ⟨?_, _, rfl⟩
            unfold restArrow
            rw [he, hd]
            rfl
      · rintro ρ' h ⟨b, rfl⟩
        refine ⟨?_, _, _, _, rfl⟩
        unfold restRight
        simp only [Bool.not_not] at h
        rw [h, hc']
        rfl
  · rintro ρ' h ⟨a, b, d, rfl⟩
    walk_at "retB"
    refine ⟨rfl, ?_⟩
    unfold restsRight
    simp only [Bool.not_not] at h
    rw [h]

theorem d_rests_right {c : Cfg} {mg : Str → Option Value} {base : Heap} (T : Top c mg) (f : Addr) (cdv : Value) (A : Around) (outer : List PySem.Env) (s : Shared) (H : Hp) (E : XK) (hr : Room 0 (A.deeper (PyProof.Rows.envOfC "rests_right" (defScope s_rests_right) s.heap.objs.size f cdv))) :
    PSs (bodyCx c mg base sn_rests_right "rests_right" s_rests_right f cdv A outer s H E) (defBody s_rests_right) (t_rests_right c) := by
  have nd := sc_rests_right.nd
  exact pss_cons (ps_for PassesOwn.never rfl (pi_range1 (by rfl) T.b_range (pa_cons (pe_callB c_len (by rfl) T.b_len PySem.boot_len (pa_cons (pv 1) pa_nil)) pa_nil)) (pg_name (i := 3) nd rfl (Or.inl rfl))
      (pss_cons (ps_set (i := 4) nd rfl (Or.inl rfl) (pe_ix ix_list (pv 1) (pv 3) (fun _ _ => rfl)))
    (pss_cons (ps_if (PW.pt (pw_or (pt_cmpR o_lt (pv 4) (pe_int) (nomark _)) (pw_or (pt_cmpR o_ge (pv 4) (pe_callB c_len (by rfl) T.b_len PySem.boot_len (pa_cons (pv 0) pa_nil)) (nomark _)) (pw_or1 (pt_cmpR (op_neD hr.units) (pe_ix ix_list (pv 0) (pv 4) (fun _ _ => rfl)) (pe_tup (pa_cons (pv 3) (pa_cons (pv 3) pa_nil))) (nomark _))))))
      (pss_one (ps_ret (pe_bl)))
      (pss_nil))
    (pss_one (ps_for PassesOwn.never rfl (pi_range1 (by rfl) T.b_range (pa_cons (pe_callB c_len (by rfl) T.b_len PySem.boot_len (pa_cons (pv 0) pa_nil)) pa_nil)) (pg_name (i := 5) nd rfl (Or.inl rfl))
      (pss_cons (ps_if (PW.pt (pw_and (pt_cmpR op_eq (pe_ix ix_tup (pe_ix ix_list (pv 0) (pv 5) (fun _ _ => rfl)) (pe_int) (fun _ _ => rfl)) (pv 3) (nomark _)) (pw_and1 (pt_cmpR op_ne (pe_ix ix_list (pe_ix ix_list (pv 2) (pv 4) (fun _ _ => rfl)) (pv 5) (fun _ _ => rfl)) (pv 5) (nomark _)))))
      (pss_one (ps_ret (pe_bl)))
      (pss_nil))
    (pss_one (ps_if (PW.pt (pw_and (pt_cmpR op_eq (pe_ix ix_tup (pe_ix ix_list (pv 0) (pv 5) (fun _ _ => rfl)) (pe_int) (fun _ _ => rfl)) (pv 3) (nomark _)) (pw_and1 (pt_cmpR op_ne (pe_ix ix_list (pe_ix ix_list (pv 2) (pv 5) (fun _ _ => rfl)) (pv 4) (fun _ _ => rfl)) (pv 5) (nomark _)))))
      (pss_one (ps_ret (pe_bl)))
      (pss_nil)))))))))
    (pss_one (ps_ret (pe_bl)))
theorem k_rests_right {c : Cfg} {mg : Str → Option Value} {base : Heap} (T : Top c mg) : Callee c mg base "rests_right" 1 ["ends", "rests", "table"] (sp_rests_right c) :=
  callee_of T.d_rests_right sc_rests_right (len_rests_right c) (fun _ _ _ _ _ _ us hl => match us, hl with | [_, _, _], _ => rfl) (fun f cdv A outer s H E hr => d_rests_right T f cdv A outer s H E hr) (run_rests_right c)
def sp_threes_right (c : Cfg) : Sp := spF c (ι := EndsT × TableT) (fun x => [dat x.1, dat x.2]) (fun x => x.1.length ≤ 100000 ∧ tableRight x.1 x.2 = true) 0 (fun x => .bl (threesRight x.1 x.2))
theorem len_threes_right (c : Cfg) : ∀ vs H Q E, sp_threes_right c vs H Q E → vs.length = 2 := spF_len fun _ => rfl

def sn_threes_right : List Str := ["ends", "table", "one", "two", "first", "three", "last"]
theorem sc_threes_right : FnScope sn_threes_right ["ends", "table"] (defScope s_threes_right) := ⟨rfl, rfl, rfl, by decide +kernel, rfl, by decide +kernel, by decide +kernel⟩
def t_threes_right (c : Cfg) : TS :=
  (tSeq (tFor (iRng1 (tCons (tCB (lLen c.K) (tCons (tVar 0) tNil)) tNil)) (gName 2)
      (tFor (iRng1 (tCons (tCB (lLen c.K) (tCons (tVar 0) tNil)) tNil)) (gName 3)
      (tSeq (tAsg (tOp (rIxL c.K) (tOp (rIxL c.K) (tVar 1) (tVar 2)) (tVar 3)) (gName 4))
    (tIfS (tTest (tOp zGe (tVar 4) (tC (.int 0))))
      (tFor (iRng1 (tCons (tCB (lLen c.K) (tCons (tVar 0) tNil)) tNil)) (gName 5)
      (tSeq (tAsg (tOp (rIxL c.K) (tOp (rIxL c.K) (tVar 1) (tVar 3)) (tVar 5)) (gName 6))
    (tIfS (tAnd (tTest (tOp zGe (tVar 6) (tC (.int 0)))) (tTest (tOp rNe (tOp (rIxL c.K) (tOp (rIxL c.K) (tVar 1) (tVar 4)) (tVar 5)) (tOp (rIxL c.K) (tOp (rIxL c.K) (tVar 1) (tVar 2)) (tVar 6)))))
      (tRet (tC (.bl false)))
      tNext)))
      tNext))))
    (tRet (tC (.bl true))))

theorem run_threes_right (c : Cfg) : ∀ vs H Q E, sp_threes_right c vs H Q E → t_threes_right c { nx := fun _ H' => Q .non H', rt := Q } (L2.start sn_threes_right vs) H := by
  refine fn_run (ρ0 := fun x => [some (0, dat x.1), some (0, dat x.2), none, none, none, none, none]) (fun _ => rfl) (fun _ => Nat.le_of_ble_eq_true rfl) ?_
  rintro ⟨e, t⟩ ⟨hl, ht⟩
  dsimp only at hl ht ⊢
  have htl := tr_len ht
  apply run_seq
  apply run_allR (m := e.length) (fun i => !(List.range e.length).all (twoRight e.length t i)) (fun ρ' => ∃ a b d f g, ρ' = [some (0, dat e), some (0, dat t), a, b, d, f, g]) (by walk_at "ev") rfl hl ⟨_, _, _, _, _, rfl⟩
  · rintro i ρ' hi ⟨a, b, d, f, g, rfl⟩
    dsimp only [List.set]
    have hi' := tr_row ht (i := (i : Int)) (by omega) (by omega)
    apply run_allR (m := e.length) (fun j => !twoRight e.length t i j) (fun ρ' => ∃ b d f g, ρ' = [some (0, dat e), some (0, dat t), some (0, dat (i : Int)), b, d, f, g]) (by walk_at "ev") rfl hl ⟨_, _, _, _, rfl⟩
    · rintro j ρ' hj ⟨b, d, f, g, rfl⟩
      dsimp only [List.set]
      have hj' := tr_row ht (i := (j : Int)) (by omega) (by omega)
      have hlt := tr_lt ht (i := (i : Int)) (j := (j : Int)) (by omega) (by omega) (by omega) (by omega)
      apply run_seq
      apply run_setT
      · walk_at "ev"
      dsimp only [List.set]
      walk_at "if"
      · intro hc
        have hc' := of_decide_eq_true hc
        have hr := tr_row ht hc' hlt
        apply run_allR (m := e.length) (fun k => !threeRight t i j k) (fun ρ' => ∃ f g, ρ' = [some (0, dat e), some (0, dat t), some (0, dat (i : Int)), some (0, dat (j : Int)), some (0, dat (at' (at' t (i : Int)) (j : Int))), f, g]) (by walk_at "ev") rfl hl ⟨_, _, rfl⟩
        · rintro k ρ' hk ⟨f, g, rfl⟩
          dsimp only [List.set]
          have hlt2 := tr_lt ht (i := (j : Int)) (j := (k : Int)) (by omega) (by omega) (by omega) (by omega)
          apply run_seq
          apply run_setT
          · walk_at "ev"
          dsimp only [List.set]
          walk_at "if"
          · intro hd
            walk_at "retB"
            have q : threeRight t i j k = false := by
              unfold threeRight
              rw [hd]
              rfl
            refine ⟨by rw [q]; rfl, fun h => ⟨?_, fun h2 => ⟨?_, fun h3 => ⟨rfl, ?_⟩⟩⟩⟩
            · unfold twoRight
              simp only [Bool.not_not] at h
              rw [hc, h]
              rfl
            · simp only [Bool.not_not] at h2
              rw [h2]
              rfl
            · unfold threesRight
              simp only [Bool.not_not] at h3
              rw [h3]
          · intro hd
            refine run_next ⟨?_, _, _, rfl⟩
            unfold threeRight
            rw [hd]
            rfl
        · rintro ρ' h ⟨f, g, rfl⟩
          refine ⟨?_, _, _, _, _, rfl⟩
          unfold twoRight
          simp only [Bool.not_not] at h
          rw [hc, h]
          rfl
      · intro hc
        refine run_next ⟨?_, _, _, _, _, rfl⟩
        unfold twoRight
        rw [hc]
        rfl
    · rintro ρ' h ⟨b, d, f, g, rfl⟩
      refine ⟨?_, _, _, _, _, _, rfl⟩
      simp only [Bool.not_not] at h
      rw [h]
      rfl
  · rintro ρ' h ⟨a, b, d, f, g, rfl⟩
    walk_at "retB"
    refine ⟨rfl, ?_⟩
    unfold threesRight
    simp only [Bool.not_not] at h
    rw [h]

theorem d_threes_right {c : Cfg} {mg : Str → Option Value} {base : Heap} (T : Top c mg) (f : Addr) (cdv : Value) (A : Around) (outer : List PySem.Env) (s : Shared) (H : Hp) (E : XK) (hr : Room 0 (A.deeper (PyProof.Rows.envOfC "threes_right" (defScope s_threes_right) s.heap.objs.size f cdv))) :
    PSs (bodyCx c mg base sn_threes_right "threes_right" s_threes_right f cdv A outer s H E) (defBody s_threes_right) (t_threes_right c) := by
  have nd := sc_threes_right.nd
  exact pss_cons (ps_for PassesOwn.never rfl (pi_range1 (by rfl) T.b_range (pa_cons (pe_callB c_len (by rfl) T.b_len PySem.boot_len (pa_cons (pv 0) pa_nil)) pa_nil)) (pg_name (i := 2) nd rfl (Or.inl rfl))
      (pss_one (ps_for PassesOwn.never rfl (pi_range1 (by rfl) T.b_range (pa_cons (pe_callB c_len (by rfl) T.b_len PySem.boot_len (pa_cons (pv 0) pa_nil)) pa_nil)) (pg_name (i := 3) nd rfl (Or.inl rfl))
      (pss_cons (ps_set (i := 4) nd rfl (Or.inl rfl) (pe_ix ix_list (pe_ix ix_list (pv 1) (pv 2) (fun _ _ => rfl)) (pv 3) (fun _ _ => rfl)))
    (pss_one (ps_if (pt_cmpR o_ge (pv 4) (pe_int) (nomark _))
      (pss_one (ps_for PassesOwn.never rfl (pi_range1 (by rfl) T.b_range (pa_cons (pe_callB c_len (by rfl) T.b_len PySem.boot_len (pa_cons (pv 0) pa_nil)) pa_nil)) (pg_name (i := 5) nd rfl (Or.inl rfl))
      (pss_cons (ps_set (i := 6) nd rfl (Or.inl rfl) (pe_ix ix_list (pe_ix ix_list (pv 1) (pv 3) (fun _ _ => rfl)) (pv 5) (fun _ _ => rfl)))
    (pss_one (ps_if (PW.pt (pw_and (pt_cmpR o_ge (pv 6) (pe_int) (nomark _)) (pw_and1 (pt_cmpR op_ne (pe_ix ix_list (pe_ix ix_list (pv 1) (pv 4) (fun _ _ => rfl)) (pv 5) (fun _ _ => rfl)) (pe_ix ix_list (pe_ix ix_list (pv 1) (pv 2) (fun _ _ => rfl)) (pv 6) (fun _ _ => rfl)) (nomark _)))))
      (pss_one (ps_ret (pe_bl)))
      (pss_nil))))))
      (pss_nil)))))))
    (pss_one (ps_ret (pe_bl)))
theorem k_threes_right {c : Cfg} {mg : Str → Option Value} {base : Heap} (T : Top c mg) : Callee c mg base "threes_right" 1 ["ends", "table"] (sp_threes_right c) :=
  callee_of T.d_threes_right sc_threes_right (len_threes_right c) (fun _ _ _ _ _ _ us hl => match us, hl with | [_, _], _ => rfl) (fun f cdv A outer s H E hr => d_threes_right T f cdv A outer s H E hr) (run_threes_right c)
def sp_hall_right (c : Cfg) : Sp := spF c (ι := EndsT × List Int × TableT) (fun x => [dat x.1, dat x.2.1, dat x.2.2]) (fun _ => True) 0 (fun x => .bl (hallRight x.1 x.2.1 x.2.2))
theorem len_hall_right (c : Cfg) : ∀ vs H Q E, sp_hall_right c vs H Q E → vs.length = 3 := spF_len fun _ => rfl

def sn_hall_right : List Str := ["ends", "rests", "table"]
theorem sc_hall_right : FnScope sn_hall_right ["ends", "rests", "table"] (defScope s_hall_right) := ⟨rfl, rfl, rfl, by decide +kernel, rfl, by decide +kernel, by decide +kernel⟩
def t_hall_right (c : Cfg) : TS :=
  (tSeq (tIfS (tOr (tTest (tOp zLt (tCB (lLen c.K) (tCons (tVar 1) tNil)) (tC (.int 1)))) (tOr (tTest (tOp zGt (tCB (lLen c.K) (tCons (tVar 1) tNil)) (tC (.int 6)))) (tOr (tTest (tOp zLt (tCB (lLen c.K) (tCons (tVar 0) tNil)) (tC (.int 1)))) (tTest (tOp zGt (tCB (lLen c.K) (tCons (tVar 0) tNil)) (tC (.int 40)))))))
      (tRet (tC (.bl false)))
      tNext)
    (tSeq (tIfS (tOr (tNot (tB (tCall (sp_ends_right c) [] E0 (tCons (tVar 0) (tCons (tCB (lLen c.K) (tCons (tVar 1) tNil)) tNil))))) (tNot (tB (tCall (sp_table_right c) [] E0 (tCons (tVar 0) (tCons (tVar 2) tNil))))))
      (tRet (tC (.bl false)))
      tNext)
    (tRet (tAndV (tCall (sp_rests_right c) [] E0 (tCons (tVar 0) (tCons (tVar 1) (tCons (tVar 2) tNil)))) (tCall (sp_threes_right c) [] E0 (tCons (tVar 0) (tCons (tVar 2) tNil)))))))

theorem run_hall_right (c : Cfg) : ∀ vs H Q E, sp_hall_right c vs H Q E → t_hall_right c { nx := fun _ H' => Q .non H', rt := Q } (L2.start sn_hall_right vs) H := by
  refine fn_run (ρ0 := fun x => [some (0, dat x.1), some (0, dat x.2.1), some (0, dat x.2.2)]) (fun _ => rfl) (fun _ => Nat.le_of_ble_eq_true rfl) ?_
  rintro ⟨e, r, t⟩ _
  dsimp only
  apply run_seq
  walk_at "if"
  · intro hb
    walk_at "retB"
    exact ⟨rfl, by unfold hallRight; rw [if_pos hb]⟩
  · intro hb
    have hb' := hb
    simp only [Bool.or_eq_false_iff, decide_eq_false_iff_not, Int.not_lt] at hb'
    apply run_next
    apply run_seq
    apply run_if
    · apply et_or
      · apply et_not
        apply etB
        refine bx_call (e, (r.length : Int)) ?_ trivial
        walk_at "ev"
      · intro _
        apply et_not
        apply etB
        refine bx_call (e, t) ?_ (by dsimp only; omega)
        walk_at "ev"
    · intro hc
      walk_at "retB"
      exact ⟨rfl, by unfold hallRight; rw [if_neg (by rw [hb]; decide), if_pos hc]⟩
    · intro hc
      have hc' := hc
      simp only [Bool.or_eq_false_iff, Bool.not_eq_false'] at hc'
      apply run_next
      apply run_retB
      · apply bx_and
        · refine bx_call (e, r, t) ?_ ⟨by dsimp only; omega, by dsimp only; omega, hc'.2⟩
          walk_at "ev"
        · intro _
          refine bx_call (e, t) ?_ ⟨by dsimp only; omega, hc'.2⟩
          walk_at "ev"
      · exact ⟨rfl, by unfold hallRight; rw [if_neg (by rw [hb]; decide), if_neg (by rw [hc]; decide)]⟩

theorem d_hall_right {c : Cfg} {mg : Str → Option Value} {base : Heap} (T : Top c mg) (c_ends_right : Callee c mg base "ends_right" 1 ["ends", "boxes"] (sp_ends_right c)) (c_table_right : Callee c mg base "table_right" 2 ["ends", "table"] (sp_table_right c)) (c_rests_right : Callee c mg base "rests_right" 1 ["ends", "rests", "table"] (sp_rests_right c)) (c_threes_right : Callee c mg base "threes_right" 1 ["ends", "table"] (sp_threes_right c)) (f : Addr) (cdv : Value) (A : Around) (outer : List PySem.Env) (s : Shared) (H : Hp) (E : XK) (hr : Room 2 (A.deeper (PyProof.Rows.envOfC "hall_right" (defScope s_hall_right) s.heap.objs.size f cdv))) :
    PSs (bodyCx c mg base sn_hall_right "hall_right" s_hall_right f cdv A outer s H E) (defBody s_hall_right) (t_hall_right c) := by
  have nd := sc_hall_right.nd
  exact pss_cons (ps_if (PW.pt (pw_or (pt_cmpR o_lt (pe_callB c_len (by rfl) T.b_len PySem.boot_len (pa_cons (pv 1) pa_nil)) (pe_int) (nomark _)) (pw_or (pt_cmpR o_gt (pe_callB c_len (by rfl) T.b_len PySem.boot_len (pa_cons (pv 1) pa_nil)) (pe_glob rfl T.c_MOST_BOXES.choose_spec ⟨_, rfl⟩) (nomark _)) (pw_or (pt_cmpR o_lt (pe_callB c_len (by rfl) T.b_len PySem.boot_len (pa_cons (pv 0) pa_nil)) (pe_int) (nomark _)) (pw_or1 (pt_cmpR o_gt (pe_callB c_len (by rfl) T.b_len PySem.boot_len (pa_cons (pv 0) pa_nil)) (pe_glob rfl T.c_MOST_ARROWS.choose_spec ⟨_, rfl⟩) (nomark _)))))))
      (pss_one (ps_ret (pe_bl)))
      (pss_nil))
    (pss_cons (ps_if (PW.pt (pw_or (pt_not (pt_val (pe_callD c_ends_right rfl rfl rfl (hr.mono (by decide)) (by rfl) (pa_cons (pv 0) (pa_cons (pe_callB c_len (by rfl) T.b_len PySem.boot_len (pa_cons (pv 1) pa_nil)) pa_nil))))) (pw_or1 (pt_not (pt_val (pe_callD c_table_right rfl rfl rfl (hr.mono (by decide)) (by rfl) (pa_cons (pv 0) (pa_cons (pv 2) pa_nil))))))))
      (pss_one (ps_ret (pe_bl)))
      (pss_nil))
    (pss_one (ps_ret (pe_and (pe_callD c_rests_right rfl rfl rfl (hr.mono (by decide)) (by rfl) (pa_cons (pv 0) (pa_cons (pv 1) (pa_cons (pv 2) pa_nil)))) (pe_one (pe_callD c_threes_right rfl rfl rfl (hr.mono (by decide)) (by rfl) (pa_cons (pv 0) (pa_cons (pv 2) pa_nil))))))))
theorem k_hall_right {c : Cfg} {mg : Str → Option Value} {base : Heap} (T : Top c mg) (c_ends_right : Callee c mg base "ends_right" 1 ["ends", "boxes"] (sp_ends_right c)) (c_table_right : Callee c mg base "table_right" 2 ["ends", "table"] (sp_table_right c)) (c_rests_right : Callee c mg base "rests_right" 1 ["ends", "rests", "table"] (sp_rests_right c)) (c_threes_right : Callee c mg base "threes_right" 1 ["ends", "table"] (sp_threes_right c)) : Callee c mg base "hall_right" 3 ["ends", "rests", "table"] (sp_hall_right c) :=
  callee_of T.d_hall_right sc_hall_right (len_hall_right c) (fun _ _ _ _ _ _ us hl => match us, hl with | [_, _, _], _ => rfl) (fun f cdv A outer s H E hr => d_hall_right T c_ends_right c_table_right c_rests_right c_threes_right f cdv A outer s H E hr) (run_hall_right c)
def sp_Hall_init (c : Cfg) : Sp := spMk c (ι := EndsT × List Int × TableT) (fun z => dat z.1) (fun z => dat z.2.1) (fun z => dat z.2.2) (fun z => hallRight z.1 z.2.1 z.2.2 = true)
theorem len_Hall_init (c : Cfg) : ∀ vs H Q E, sp_Hall_init c vs H Q E → vs.length = 4 := fun vs H Q E h => by
  obtain ⟨_, _, _, _, _, _, _, _, e, _⟩ := h
  rw [e]
  rfl

def sn_Hall_init : List Str := ["self", "ends", "rests", "table", "row"]
def sx_Hall_init_0 : Scope := { kind := .function, names := [(".0", .local), ("row", .local), ("list", .globalImplicit)], isGenerator := false, isCoroutine := false, more := [] }
theorem sc_Hall_init : FnScope sn_Hall_init ["self", "ends", "rests", "table"] (defScope s_Hall_init) := ⟨rfl, rfl, rfl, by decide +kernel, rfl, by decide +kernel, by decide +kernel⟩
def t_Hall_init (c : Cfg) : TS :=
  (tSeq (tIfS (tNot (tB (tCall (sp_hall_right c) [] E0 (tCons (tVar 1) (tCons (tVar 2) (tCons (tVar 3) tNil))))))
      tNever
      tNext)
    (tSeq (sFld c.K (tVar 0) (tCB (lList c.K) (tCons (tVar 1) tNil)) "ends")
    (tSeq (sFld c.K (tVar 0) (tCB (lList c.K) (tCons (tVar 2) tNil)) "rests")
    (sFld c.K (tVar 0) (tLc (iList c.K (tVar 3)) (gName 4) tYes (tCB (lList c.K) (tCons (tVar 4) tNil)) [4]) "table"))))

theorem run_Hall_init (c : Cfg) (T : HallTxt c) : ∀ vs H Q E, sp_Hall_init c vs H Q E → t_Hall_init c { nx := fun _ H' => Q .non H', rt := Q } (L2.start sn_Hall_init vs) H := by
  rintro vs H Q E ⟨⟨e, r, t⟩, x, dx, v1, v2, v3, B, hp, rfl, hx, hBH, hBx, r1, r2, r3, k⟩
  dsimp only at hp r1 r2 r3 k
  let G : Hp := fun a => if a = x then none else H a
  have hG : Ex G H := fun a o q => by
    by_cases w : a = x
    · have q' : (if a = x then none else H a) = some o := q
      rw [if_pos w] at q'; cases q'
    · have q' : (if a = x then none else H a) = some o := q
      rw [if_neg w] at q'; exact q'
  have hGx : G x = none := if_pos rfl
  have En : Env c G B H (L2.start sn_Hall_init [.ref x, v1, v2, v3]) [none, some (0, dat e), some (0, dat r), some (0, dat t), none] := by
    refine ⟨hBH, hG, rfl, fun _ _ => False, fun _ _ _ z => z.elim, fun _ _ z => z.elim, fun i n d q => ?_⟩
    match i, q with
    | 1, q => cases q; exact ⟨v1, rfl, fun _ z => z, r1⟩
    | 2, q => cases q; exact ⟨v2, rfl, fun _ z => z, r2⟩
    | 3, q => cases q; exact ⟨v3, rfl, fun _ z => z, r3⟩
    | 4, q => cases q
    | _ + 5, q => cases q
  have hi : ∀ (i n : Nat) (d : D), ([none, some (0, dat e), some (0, dat r), some (0, dat t), none] : Rho)[i]? = some (some (n, d)) → n = 0 := fun i n d q => by
    match i, q with
    | 1, q => cases q; rfl
    | 2, q => cases q; rfl
    | 3, q => cases q; rfl
    | 4, q => cases q
    | _ + 5, q => cases q
  have ht : ET c (tNot (tB (tCall (sp_hall_right c) [] E0 (tCons (tVar 1) (tCons (tVar 2) (tCons (tVar 3) tNil)))))) [none, some (0, dat e), some (0, dat r), some (0, dat t), none] (!hallRight e r t) := by
    apply et_not
    apply etB
    refine bx_call (e, r, t) ?_ trivial
    walk_at "ev"
  rw [hp] at ht
  have h1 : TX c (tCB (lList c.K) (tCons (tVar 1) tNil)) [none, some (0, dat e), some (0, dat r), some (0, dat t), none] e := by (walk_at "ev")
  have h2 : TX c (tCB (lList c.K) (tCons (tVar 2) tNil)) [none, some (0, dat e), some (0, dat r), some (0, dat t), none] r := by (walk_at "ev")
  have h3 : TX c (tLc (iList c.K (tVar 3)) (gName 4) tYes (tCB (lList c.K) (tCons (tVar 4) tNil)) [4]) [none, some (0, dat e), some (0, dat r), some (0, dat t), none] t := by
    have hz : t.length < 100000 := by
      have := tr_len (hall_table hp)
      have := hall_size hp
      omega
    have h : NX c (tLc (iList c.K (tVar 3)) (gName 4) tYes (tCB (lList c.K) (tCons (tVar 4) tNil)) [4]) [none, some (0, dat e), some (0, dat r), some (0, dat t), none] 2 (t.map fun row => row) := by
      refine nx_lcLm t (fun row => row) (tx_var rfl) (fun _ => gt_nm) (fun row _ => ?_) hz (by decide)
      walk_at "nx"
    rw [List.map_id'] at h
    exact h.tx
  unfold t_Hall_init tSeq tIfS
  refine ht G B H _ En _ fun H1 x1 => ?_
  show tNext _ _ H1
  have E1 := En.grow x1
  refine sfld_step E1 hi rfl (x1 _ _ hx) hGx hBx T.cl T.ne (by decide) h1.ex fun y1 B2 H2 b2 n2 k2 E2 hx2 hb2 q1 => ?_
  refine sfld_step E2 hi rfl hx2 hGx hb2 T.cl T.nr (by show 1 < 1000; decide) h2.ex fun y2 B3 H3 b3 n3 k3 E3 hx3 hb3 q2 => ?_
  refine sfld_step E3 hi rfl hx3 hGx hb3 T.cl T.nt (by show (putF _ _ (putF _ _ _)).length < 1000; exact Nat.lt_of_le_of_lt (length_putF _ _ _) (Nat.lt_of_le_of_lt (Nat.add_le_add_right (length_putF _ _ _) 1) (by show 0 + 1 + 1 < 1000; decide))) h3.ex fun y3 B4 H4 b4 n4 k4 E4 hx4 hb4 q3 => ?_
  · have hal : ∀ a o, a ≠ x → H a = some o → H4 a = some o := fun a o ha q => k4 a o ha (k3 a o ha (k2 a o ha (x1 _ _ q)))
    have back : ∀ a, a ≠ x → H4 a = none → H a = none := fun a ha q => by
      cases w : H a with
      | none => rfl
      | some o => rw [hal a o ha w] at q; cases q
    have bk1 : ∀ a, H1 a = none → H a = none := fun a q => Ex.back x1 q
    have bk2 : ∀ a, a ≠ x → H2 a = none → H a = none := fun a ha q => by
      cases w : H a with
      | none => rfl
      | some o => rw [k2 a o ha (x1 _ _ w)] at q; cases q
    have bk3 : ∀ a, a ≠ x → H3 a = none → H a = none := fun a ha q => by
      cases w : H a with
      | none => rfl
      | some o => rw [k3 a o ha (k2 a o ha (x1 _ _ w))] at q; cases q
    refine k B4 H4 _ y1 y2 y3 (b2.trans (b3.trans b4)) E4.bh (fun a o q => ?_) hal hb4 hx4 ?_ ?_ ?_ (q1.mono (b3.trans b4)) (q2.mono b4) q3
    · have hax : a ≠ x := fun w => by rw [w, hb4] at q; cases q
      rcases n4 a o q with w | w
      · rcases n3 a o w with w | w
        · rcases n2 a o w with w | w
          · exact .inl w
          · exact .inr (bk1 a w)
        · exact .inr (bk2 a hax w)
      · exact .inr (bk3 a hax w)
    · rw [lookup_putF, if_neg (by decide +kernel), lookup_putF, if_neg (by decide +kernel), lookup_putF, if_pos rfl]
    · rw [lookup_putF, if_neg (by decide +kernel), lookup_putF, if_pos rfl]
    · rw [lookup_putF, if_pos rfl]

theorem d_Hall_init {c : Cfg} {mg : Str → Option Value} {base : Heap} (T : Top c mg) (c_hall_right : Callee c mg base "hall_right" 3 ["ends", "rests", "table"] (sp_hall_right c)) (f : Addr) (cdv : Value) (A : Around) (outer : List PySem.Env) (s : Shared) (H : Hp) (E : XK) (hr : Room 3 (A.deeper (PyProof.Rows.envOfC "Hall.__init__" (defScope s_Hall_init) s.heap.objs.size f cdv))) :
    PSs (bodyCx c mg base sn_Hall_init "Hall.__init__" s_Hall_init f cdv A outer s H E) (defBody s_Hall_init) (t_Hall_init c) := by
  have nd := sc_Hall_init.nd
  exact pss_cons (ps_if (pt_not (pt_val (pe_callD c_hall_right rfl rfl rfl (hr.mono (by decide)) (by rfl) (pa_cons (pv 1) (pa_cons (pv 2) (pa_cons (pv 3) pa_nil))))))
      (pss_one (ps_never))
      (pss_nil))
    (pss_cons (ps_fld (pv 0) (pe_callTy c_list (by rfl) T.b_list (by decide +kernel) (pa_cons (pv 1) pa_nil)) rfl)
    (pss_cons (ps_fld (pv 0) (pe_callTy c_list (by rfl) T.b_list (by decide +kernel) (pa_cons (pv 2) pa_nil)) rfl)
    (pss_one (ps_fld (pv 0) (pe_lc (own := [("row", 4)]) (g := (gName 4)) (tt := tYes) (wi := (iList c.K (tVar 3))) (te := (tCB (lList c.K) (tCons (tVar 4) tNil))) rfl nd (pi_list (pv 3)) (blkOk_by (own := [("row", 4)]) (N := sn_Hall_init) (sc := defScope s_Hall_init) (scope := sx_Hall_init_0) (by decide +kernel)) (fun _ _ _ _ _ => pg_name (i := 4) nd rfl (Or.inl rfl)) (fun _ _ _ _ _ => pts_nil) (fun _ _ _ _ _ => pe_callTy c_list (by rfl) T.b_list (by decide +kernel) (pa_cons (pv 4) pa_nil))) rfl))))
theorem k_Hall_init {c : Cfg} {mg : Str → Option Value} {base : Heap} (T : Top c mg) (c_hall_right : Callee c mg base "hall_right" 3 ["ends", "rests", "table"] (sp_hall_right c)) : Maker c mg base 4 (sp_Hall_init c) :=
  maker_of T.i_Hall T.g_Hall sc_Hall_init (len_Hall_init c) (fun _ _ _ _ _ _ us hl => match us, hl with | [_, _, _, _], _ => rfl) (fun f cdv A outer s H E hr => d_Hall_init T c_hall_right f cdv A outer s H E hr) (run_Hall_init c T.hall)
def sp_lists_right (c : Cfg) : Sp := spF c (ι := HallT × List Int × List (List Int)) (fun x => [hd x.1, dat x.2.1, dat x.2.2]) (fun x => HallOk x.1 ∧ x.2.1.length = x.1.r.length ∧ x.2.2.length = x.1.e.length) 0 (fun x => .bl (listsRight x.1 x.2.1 x.2.2))
theorem len_lists_right (c : Cfg) : ∀ vs H Q E, sp_lists_right c vs H Q E → vs.length = 3 := spF_len fun _ => rfl

def sn_lists_right : List Str := ["hall", "counts", "maps", "arrow", "one", "other", "thing"]
theorem sc_lists_right : FnScope sn_lists_right ["hall", "counts", "maps"] (defScope s_lists_right) := ⟨rfl, rfl, rfl, by decide +kernel, rfl, by decide +kernel, by decide +kernel⟩
def t_lists_right (c : Cfg) : TS :=
  (tSeq (tFor (iRng1 (tCons (tCB (lLen c.K) (tCons (tVar 2) tNil)) tNil)) (gName 3)
      (tSeq (tAsg (tOp (rIxL c.K) (tFld c.K (tVar 0) "ends") (tVar 3)) (gTup c.K 2 (gCons (gName 4) (gCons (gName 5) gNil))))
    (tSeq (tIfS (tTest (tOp rNe (tCB (lLen c.K) (tCons (tOp (rIxL c.K) (tVar 2) (tVar 3)) tNil)) (tOp (rIxL c.K) (tVar 1) (tVar 4))))
      (tRet (tC (.bl false)))
      tNext)
    (tFor (iList c.K (tOp (rIxL c.K) (tVar 2) (tVar 3))) (gName 6)
      (tIfS (tOr (tTest (tOp zLt (tVar 6) (tC (.int 0)))) (tTest (tOp zGe (tVar 6) (tOp (rIxL c.K) (tVar 1) (tVar 5)))))
      (tRet (tC (.bl false)))
      tNext)))))
    (tRet (tC (.bl true))))

theorem run_lists_right (c : Cfg) (hT : HallTxt c) (hI : IsaTxt c) : ∀ vs H Q E, sp_lists_right c vs H Q E → t_lists_right c { nx := fun _ H' => Q .non H', rt := Q } (L2.start sn_lists_right vs) H := by
  refine fn_run (ρ0 := fun x => [some (0, hd x.1), some (0, dat x.2.1), some (0, dat x.2.2), none, none, none, none]) (fun _ => rfl) (fun _ => Nat.le_of_ble_eq_true rfl) ?_
  rintro ⟨h, cs, ms⟩ ⟨hp, lc, lm⟩
  dsimp only at hp lc lm ⊢
  have hs := hall_size hp
  apply run_seq
  apply run_allR (m := ms.length) (fun i => !listRight h cs ms i) (fun ρ' => ∃ a3 a4 a5 a6, ρ' = [some (0, hd h), some (0, dat cs), some (0, dat ms), a3, a4, a5, a6])
  · walk_at "ev"
  · rfl
  · omega
  · exact ⟨_, _, _, _, rfl⟩
  · rintro i ρ' hi ⟨a3, a4, a5, a6, rfl⟩
    obtain ⟨⟨e0, e1⟩, e2, e3⟩ := ends_of hp (i := (i : Int)) (by omega) (by omega)
    dsimp only [List.set]
    apply run_seq
    apply run_asg2 (p := at' h.e (i : Int))
    · walk_at "ev"
    dsimp only [List.set]
    apply run_seq
    walk_at "if"
    · intro q
      have hb : listRight h cs ms i = false := by
        unfold listRight
        simp only [Bool.not_eq_true', decide_eq_false_iff_not] at q
        rw [decide_eq_false q]
        rfl
      walk_at "retB"
      refine ⟨by rw [hb]; rfl, fun w => ⟨rfl, ?_⟩⟩
      simp only [Bool.not_not] at w
      unfold listsRight
      rw [w]
    intro q
    simp only [Bool.not_eq_false', decide_eq_true_eq] at q
    apply run_next
    apply run_allL (at' ms (i : Int)) (fun x => decide (x < 0) || decide (at' cs (at' h.e (i : Int)).2 ≤ x)) (fun ρ' => ∃ a6, ρ' = [some (0, hd h), some (0, dat cs), some (0, dat ms), some (0, Dat.d (i : Int)), some (0, Dat.d (at' h.e (i : Int)).1), some (0, Dat.d (at' h.e (i : Int)).2), a6])
    · walk_at "ev"
    · exact fun _ => gt_nm
    · exact ⟨_, rfl⟩
    · rintro x ρ' hx ⟨a6, rfl⟩
      dsimp only [List.set]
      walk_at "if"
      · intro z
        walk_at "retB"
        refine ⟨z, fun w => ?_⟩
        have hb : listRight h cs ms i = false := by
          unfold listRight
          rw [w, Bool.and_false]
        refine ⟨by rw [hb]; rfl, fun w2 => ⟨rfl, ?_⟩⟩
        simp only [Bool.not_not] at w2
        unfold listsRight
        rw [w2]
      · intro z
        exact run_next ⟨z, _, rfl⟩
    · rintro ρ' w ⟨a6, rfl⟩
      have hb : listRight h cs ms i = true := by
        unfold listRight
        rw [w, decide_eq_true q]
        rfl
      exact ⟨by rw [hb]; rfl, _, _, _, _, rfl⟩
  · rintro ρ' w ⟨a3, a4, a5, a6, rfl⟩
    walk_at "retB"
    refine ⟨rfl, ?_⟩
    simp only [Bool.not_not] at w
    unfold listsRight
    rw [w]

theorem d_lists_right {c : Cfg} {mg : Str → Option Value} {base : Heap} (T : Top c mg) (f : Addr) (cdv : Value) (A : Around) (outer : List PySem.Env) (s : Shared) (H : Hp) (E : XK) (hr : Room 0 (A.deeper (PyProof.Rows.envOfC "lists_right" (defScope s_lists_right) s.heap.objs.size f cdv))) :
    PSs (bodyCx c mg base sn_lists_right "lists_right" s_lists_right f cdv A outer s H E) (defBody s_lists_right) (t_lists_right c) := by
  have nd := sc_lists_right.nd
  exact pss_cons (ps_for PassesOwn.never rfl (pi_range1 (by rfl) T.b_range (pa_cons (pe_callB c_len (by rfl) T.b_len PySem.boot_len (pa_cons (pv 2) pa_nil)) pa_nil)) (pg_name (i := 3) nd rfl (Or.inl rfl))
      (pss_cons (ps_asg (pe_ix ix_list (pe_fld (pv 0) rfl) (pv 3) (fun _ _ => rfl)) (pg_tup rfl (pgs_cons (pg_name (i := 4) nd rfl (Or.inl rfl)) (pgs_cons (pg_name (i := 5) nd rfl (Or.inl rfl)) pgs_nil))))
    (pss_cons (ps_if (pt_cmpR op_ne (pe_callB c_len (by rfl) T.b_len PySem.boot_len (pa_cons (pe_ix ix_list (pv 2) (pv 3) (fun _ _ => rfl)) pa_nil)) (pe_ix ix_list (pv 1) (pv 4) (fun _ _ => rfl)) (nomark _))
      (pss_one (ps_ret (pe_bl)))
      (pss_nil))
    (pss_one (ps_for PassesOwn.never rfl (pi_list (pe_ix ix_list (pv 2) (pv 3) (fun _ _ => rfl))) (pg_name (i := 6) nd rfl (Or.inl rfl))
      (pss_one (ps_if (PW.pt (pw_or (pt_cmpR o_lt (pv 6) (pe_int) (nomark _)) (pw_or1 (pt_cmpR o_ge (pv 6) (pe_ix ix_list (pv 1) (pv 5) (fun _ _ => rfl)) (nomark _)))))
      (pss_one (ps_ret (pe_bl)))
      (pss_nil))))))))
    (pss_one (ps_ret (pe_bl)))
theorem k_lists_right {c : Cfg} {mg : Str → Option Value} {base : Heap} (T : Top c mg) : Callee c mg base "lists_right" 1 ["hall", "counts", "maps"] (sp_lists_right c) :=
  callee_of T.d_lists_right sc_lists_right (len_lists_right c) (fun _ _ _ _ _ _ us hl => match us, hl with | [_, _, _], _ => rfl) (fun f cdv A outer s H E hr => d_lists_right T f cdv A outer s H E hr) (run_lists_right c T.hall T.isa)
def sp_is_reading (c : Cfg) : Sp := spF c (ι := HallT × List Int × List (List Int)) (fun x => [hd x.1, dat x.2.1, dat x.2.2]) (fun x => HallOk x.1) 0 (fun x => .bl (isReadB x.1 x.2.1 x.2.2))
theorem len_is_reading (c : Cfg) : ∀ vs H Q E, sp_is_reading c vs H Q E → vs.length = 3 := spF_len fun _ => rfl

def sn_is_reading : List Str := ["hall", "counts", "maps", "count", "box", "one", "other", "made", "thing"]
def sx_is_reading_0 : Scope := { kind := .function, names := [(".0", .local), ("thing", .local), ("maps", .free), ("other", .free)], isGenerator := false, isCoroutine := false, more := [] }
def sxr_is_reading_0 : Scope := { kind := .function, names := [(".0", .local), ("thing", .local), ("maps", .cell), ("other", .cell)], isGenerator := false, isCoroutine := false, more := [] }
theorem sc_is_reading : FnScope sn_is_reading ["hall", "counts", "maps"] (defScope s_is_reading) := ⟨rfl, rfl, rfl, by decide +kernel, rfl, by decide +kernel, by decide +kernel⟩
def t_is_reading (c : Cfg) : TS :=
  (tSeq (tIfS (tOr (tTest (tOp rNe (tCB (lLen c.K) (tCons (tVar 1) tNil)) (tCB (lLen c.K) (tCons (tFld c.K (tVar 0) "rests") tNil)))) (tTest (tOp rNe (tCB (lLen c.K) (tCons (tVar 2) tNil)) (tCB (lLen c.K) (tCons (tFld c.K (tVar 0) "ends") tNil)))))
      (tRet (tC (.bl false)))
      tNext)
    (tSeq (tFor (iList c.K (tVar 1)) (gName 3)
      (tIfS (tOr (tTest (tOp zLt (tVar 3) (tC (.int 0)))) (tTest (tOp zGt (tVar 3) (tC (.int 40)))))
      (tRet (tC (.bl false)))
      tNext))
    (tSeq (tIfS (tNot (tB (tCall (sp_lists_right c) [] E0 (tCons (tVar 0) (tCons (tVar 1) (tCons (tVar 2) tNil))))))
      (tRet (tC (.bl false)))
      tNext)
    (tSeq (tFor (iRng1 (tCons (tCB (lLen c.K) (tCons (tVar 1) tNil)) tNil)) (gName 4)
      (tIfS (tTest (tOp (rNeD c.K) (tOp (rIxL c.K) (tVar 2) (tOp (rIxL c.K) (tFld c.K (tVar 0) "rests") (tVar 4))) (tLstRg (tRg1 (tOp (rIxL c.K) (tVar 1) (tVar 4))))))
      (tRet (tC (.bl false)))
      tNext))
    (tSeq (tFor (iRng1 (tCons (tCB (lLen c.K) (tCons (tVar 2) tNil)) tNil)) (gName 5)
      (tFor (iRng1 (tCons (tCB (lLen c.K) (tCons (tVar 2) tNil)) tNil)) (gName 6)
      (tSeq (tAsg (tOp (rIxL c.K) (tOp (rIxL c.K) (tFld c.K (tVar 0) "table") (tVar 5)) (tVar 6)) (gName 7))
    (tIfS (tAnd (tTest (tOp zGe (tVar 7) (tC (.int 0)))) (tTest (tOp (rNeD c.K) (tLc (iList c.K (tOp (rIxL c.K) (tVar 2) (tVar 5))) (gName 8) tYes (tOp (rIxL c.K) (tOp (rIxL c.K) (tVar 2) (tVar 6)) (tVar 8)) [8]) (tOp (rIxL c.K) (tVar 2) (tVar 7)))))
      (tRet (tC (.bl false)))
      tNext))))
    (tRet (tC (.bl true))))))))

theorem run_is_reading (c : Cfg) (hT : HallTxt c) (hI : IsaTxt c) : ∀ vs H Q E, sp_is_reading c vs H Q E → t_is_reading c { nx := fun _ H' => Q .non H', rt := Q } (L2.start sn_is_reading vs) H := by
  refine fn_run (ρ0 := fun x => [some (0, hd x.1), some (0, dat x.2.1), some (0, dat x.2.2), none, none, none, none, none, none]) (fun _ => rfl) (fun _ => Nat.le_of_ble_eq_true rfl) ?_
  rintro ⟨h, cs, ms⟩ hp
  dsimp only at hp ⊢
  have hs := hall_size hp
  obtain ⟨⟨hr0, hr1, he0, he1⟩, _, ht, _, _⟩ := hall_parts hp
  have hl := tr_len ht
  apply run_seq
  walk_at "if"
  · intro q
    walk_at "retB"
    exact ⟨rfl, by unfold isReadB; rw [if_pos q]⟩
  intro q
  have q' := q
  simp only [Bool.or_eq_false_iff, Bool.not_eq_false', decide_eq_true_eq] at q'
  have lc : cs.length = h.r.length := by omega
  have lm : ms.length = h.e.length := by omega
  have hq : ¬ (!decide ((cs.length : Int) = (h.r.length : Int)) || !decide ((ms.length : Int) = (h.e.length : Int))) = true := by rw [q]; decide
  apply run_next
  apply run_seq
  apply run_allL cs (fun x => decide (x < 0) || decide (40 < x)) (fun ρ' => ∃ a3, ρ' = [some (0, hd h), some (0, dat cs), some (0, dat ms), a3, none, none, none, none, none])
  · walk_at "ev"
  · exact fun _ => gt_nm
  · exact ⟨_, rfl⟩
  · rintro x ρ' hx ⟨a3, rfl⟩
    dsimp only [List.set]
    walk_at "if"
    · intro z
      walk_at "retB"
      refine ⟨z, fun w => ⟨rfl, ?_⟩⟩
      unfold isReadB
      rw [if_neg hq, if_pos (show cs.all cntOk = false from w)]
    · intro z
      exact run_next ⟨z, _, rfl⟩
  rintro ρ' w1 ⟨a3, rfl⟩
  have hc : ¬ cs.all cntOk = false := by
    rw [show cs.all cntOk = true from w1]
    decide
  have hcn : ∀ x ∈ cs, 0 ≤ x ∧ x ≤ 40 := fun x hx => by
    have := List.all_eq_true.mp w1 x hx
    simp only [Bool.not_eq_true', Bool.or_eq_false_iff, decide_eq_false_iff_not] at this
    omega
  apply run_seq
  apply run_if
  · apply et_not
    apply etB
    exact bx_call (h, cs, ms) (ea_cons (hx_var rfl) (tea_cons (tx_var rfl) (tea_cons (tx_var rfl) tea_nil))) ⟨hp, lc, lm⟩
  · intro z
    walk_at "retB"
    refine ⟨rfl, ?_⟩
    unfold isReadB
    rw [if_neg hq, if_neg hc, if_pos (by simpa using z)]
  intro z
  have hlr : listsRight h cs ms = true := by simpa using z
  have hl2 : ¬ listsRight h cs ms = false := by rw [hlr]; decide
  have h3 : ∀ i : Int, 0 ≤ i → i < h.e.length → ((at' ms i).length : Int) = at' cs (at' h.e i).1 ∧ ∀ x ∈ at' ms i, 0 ≤ x ∧ x < at' cs (at' h.e i).2 := fun i i0 i1 => by
    unfold listsRight at hlr
    rw [DL.all_range] at hlr
    obtain ⟨k, rfl⟩ := Int.eq_ofNat_of_zero_le i0
    have := hlr k (by omega)
    unfold listRight at this
    rw [Bool.and_eq_true, decide_eq_true_eq, List.all_eq_true] at this
    refine ⟨this.1, fun x hx => ?_⟩
    have w := this.2 x hx
    simp only [Bool.not_eq_true', Bool.or_eq_false_iff, decide_eq_false_iff_not] at w
    have w2 := w.1
    have w3 := w.2
    exact ⟨by omega, by show x < at' cs (at' h.e ((k : Nat) : Int)).2; omega⟩
  have hrow : ∀ i : Int, 0 ≤ i → i < h.e.length → (at' ms i).length ≤ 40 := fun i i0 i1 => by
    have w := (h3 i i0 i1).1
    obtain ⟨⟨e0, e1⟩, _⟩ := ends_of hp i0 i1
    have := hcn _ (at_mem (xs := cs) e0 (by omega))
    omega
  apply run_next
  apply run_seq
  apply run_allR (m := cs.length) (fun b => !eqT (at' ms (at' h.r (b : Int))) (rangeI (at' cs (b : Int)).toNat)) (fun ρ' => ∃ a4, ρ' = [some (0, hd h), some (0, dat cs), some (0, dat ms), a3, a4, none, none, none, none])
  · walk_at "ev"
  · rfl
  · omega
  · exact ⟨_, rfl⟩
  · rintro b ρ' hb ⟨a4, rfl⟩
    obtain ⟨⟨r0, r1⟩, _⟩ := rest_of hp (b := (b : Int)) (by omega) (by omega)
    have hcb := hcn _ (at_mem (xs := cs) (i := (b : Int)) (by omega) (by omega))
    dsimp only [List.set]
    apply run_if
    · apply ett
      apply bx_neT
      · walk_at "ev"
      · refine NX.give 1 (nx_lstRg (m := (at' cs (b : Int)).toNat) (i := at' cs (b : Int)) ?_ ?_ ?_)
        · walk_at "ev"
        · omega
        · omega
      · decide
    · intro y
      walk_at "retB"
      refine ⟨y, fun w => ⟨rfl, ?_⟩⟩
      simp only [Bool.not_not] at w
      unfold isReadB
      rw [if_neg hq, if_neg hc, if_neg hl2, if_pos (show restsRead h cs ms = false from w)]
    · intro y
      exact run_next ⟨y, _, rfl⟩
  rintro ρ' w2 ⟨a4, rfl⟩
  simp only [Bool.not_not] at w2
  have hr2 : ¬ restsRead h cs ms = false := by
    rw [show restsRead h cs ms = true from w2]
    decide
  have hfin : isReadB h cs ms = compsRead h ms := by
    unfold isReadB
    rw [if_neg hq, if_neg hc, if_neg hl2, if_neg hr2]
  apply run_seq
  apply run_allR (m := ms.length) (fun i => !(List.range ms.length).all fun j => twoRead h ms i j) (fun ρ' => ∃ a5 a6 a7, ρ' = [some (0, hd h), some (0, dat cs), some (0, dat ms), a3, a4, a5, a6, a7, none])
  · walk_at "ev"
  · rfl
  · omega
  · exact ⟨_, _, _, rfl⟩
  · rintro i ρ' hi ⟨a5, a6, a7, rfl⟩
    dsimp only [List.set]
    apply run_allR (m := ms.length) (fun j => !twoRead h ms i j) (fun ρ' => ∃ a6 a7, ρ' = [some (0, hd h), some (0, dat cs), some (0, dat ms), a3, a4, some (0, Dat.d (i : Int)), a6, a7, none])
    · walk_at "ev"
    · rfl
    · omega
    · exact ⟨_, _, rfl⟩
    · rintro j ρ' hj ⟨a6, a7, rfl⟩
      have htr := tr_row ht (i := (i : Int)) (by omega) (by omega)
      have hri := hrow (i : Int) (by omega) (by omega)
      dsimp only [List.set]
      apply run_seq
      apply run_setT
      · walk_at "ev"
      dsimp only [List.set]
      apply run_if (b := !twoRead h ms i j)
      · unfold twoRead
        rw [Bool.not_not]
        apply et_and
        · walk_at "ev"
        · intro m0
          have m0' := of_decide_eq_true m0
          obtain ⟨t1, t2, t3⟩ := tab_of hp (i := (i : Int)) (j := (j : Int)) (by omega) (by omega) (by omega) (by omega) m0'
          apply ett
          apply bx_neT
          · refine NX.give 1 (x := compRow ms (i : Int) (j : Int)) ?_
            unfold compRow
            apply nx_lcLm (at' ms (i : Int)) (fun x => at' (at' ms (j : Int)) x)
            · walk_at "ev"
            · exact fun _ => gt_nm
            · intro x hx
              have hx2 := (h3 (i : Int) (by omega) (by omega)).2 x hx
              have hj2 := (h3 (j : Int) (by omega) (by omega)).1
              rw [← t1] at hj2
              apply TX.nx
              walk_at "ev"
            · omega
            · decide
          · walk_at "ev"
          · decide
      · intro y
        walk_at "retB"
        refine ⟨y, fun w => ⟨by simp only [Bool.not_not] at w; rw [w]; rfl, fun w3 => ⟨rfl, ?_⟩⟩⟩
        rw [hfin]
        simp only [Bool.not_not] at w3
        unfold compsRead
        rw [w3]
      · intro y
        exact run_next ⟨y, _, _, rfl⟩
    · rintro ρ' w3 ⟨a6, a7, rfl⟩
      simp only [Bool.not_not] at w3
      exact ⟨by rw [w3]; rfl, _, _, _, rfl⟩
  · rintro ρ' w3 ⟨a5, a6, a7, rfl⟩
    walk_at "retB"
    refine ⟨rfl, ?_⟩
    simp only [Bool.not_not] at w3
    rw [hfin]
    unfold compsRead
    rw [w3]

theorem d_is_reading {c : Cfg} {mg : Str → Option Value} {base : Heap} (T : Top c mg) (c_lists_right : Callee c mg base "lists_right" 1 ["hall", "counts", "maps"] (sp_lists_right c)) (f : Addr) (cdv : Value) (A : Around) (outer : List PySem.Env) (s : Shared) (H : Hp) (E : XK) (hr : Room 1 (A.deeper (PyProof.Rows.envOfC "is_reading" (defScope s_is_reading) s.heap.objs.size f cdv))) :
    PSs (bodyCx c mg base sn_is_reading "is_reading" s_is_reading f cdv A outer s H E) (defBody s_is_reading) (t_is_reading c) := by
  have nd := sc_is_reading.nd
  exact pss_cons (ps_if (PW.pt (pw_or (pt_cmpR op_ne (pe_callB c_len (by rfl) T.b_len PySem.boot_len (pa_cons (pv 1) pa_nil)) (pe_callB c_len (by rfl) T.b_len PySem.boot_len (pa_cons (pe_fld (pv 0) rfl) pa_nil)) (nomark _)) (pw_or1 (pt_cmpR op_ne (pe_callB c_len (by rfl) T.b_len PySem.boot_len (pa_cons (pv 2) pa_nil)) (pe_callB c_len (by rfl) T.b_len PySem.boot_len (pa_cons (pe_fld (pv 0) rfl) pa_nil)) (nomark _)))))
      (pss_one (ps_ret (pe_bl)))
      (pss_nil))
    (pss_cons (ps_for PassesOwn.never rfl (pi_list (pv 1)) (pg_name (i := 3) nd rfl (Or.inl rfl))
      (pss_one (ps_if (PW.pt (pw_or (pt_cmpR o_lt (pv 3) (pe_int) (nomark _)) (pw_or1 (pt_cmpR o_gt (pv 3) (pe_glob rfl T.c_MOST_THINGS.choose_spec ⟨_, rfl⟩) (nomark _)))))
      (pss_one (ps_ret (pe_bl)))
      (pss_nil))))
    (pss_cons (ps_if (pt_not (pt_val (pe_callD c_lists_right rfl rfl rfl (hr.mono (by decide)) (by rfl) (pa_cons (pv 0) (pa_cons (pv 1) (pa_cons (pv 2) pa_nil))))))
      (pss_one (ps_ret (pe_bl)))
      (pss_nil))
    (pss_cons (ps_for PassesOwn.never rfl (pi_range1 (by rfl) T.b_range (pa_cons (pe_callB c_len (by rfl) T.b_len PySem.boot_len (pa_cons (pv 1) pa_nil)) pa_nil)) (pg_name (i := 4) nd rfl (Or.inl rfl))
      (pss_one (ps_if (pt_cmpR (op_neD hr.units) (pe_ix ix_list (pv 2) (pe_ix ix_list (pe_fld (pv 0) rfl) (pv 4) (fun _ _ => rfl)) (fun _ _ => rfl)) (pe_listRg rfl (by rfl) T.b_list (prg_1 (by rfl) T.b_range (pe_ix ix_list (pv 1) (pv 4) (fun _ _ => rfl)))) (nomark _))
      (pss_one (ps_ret (pe_bl)))
      (pss_nil))))
    (pss_cons (ps_for PassesOwn.never rfl (pi_range1 (by rfl) T.b_range (pa_cons (pe_callB c_len (by rfl) T.b_len PySem.boot_len (pa_cons (pv 2) pa_nil)) pa_nil)) (pg_name (i := 5) nd rfl (Or.inl rfl))
      (pss_one (ps_for PassesOwn.never rfl (pi_range1 (by rfl) T.b_range (pa_cons (pe_callB c_len (by rfl) T.b_len PySem.boot_len (pa_cons (pv 2) pa_nil)) pa_nil)) (pg_name (i := 6) nd rfl (Or.inr rfl))
      (pss_cons (ps_set (i := 7) nd rfl (Or.inl rfl) (pe_ix ix_list (pe_ix ix_list (pe_fld (pv 0) rfl) (pv 5) (fun _ _ => rfl)) (pv 6) (fun _ _ => rfl)))
    (pss_one (ps_if (PW.pt (pw_and (pt_cmpR o_ge (pv 7) (pe_int) (nomark _)) (pw_and1 (pt_cmpR (op_neD hr.units) (pe_lc (own := [("thing", 8)]) (g := (gName 8)) (tt := tYes) (wi := (iList c.K (tOp (rIxL c.K) (tVar 2) (tVar 5)))) (te := (tOp (rIxL c.K) (tOp (rIxL c.K) (tVar 2) (tVar 6)) (tVar 8))) rfl nd (pi_list (pe_ix ix_list (pv 2) (pv 5) (fun _ _ => rfl))) (blkOk_by (own := [("thing", 8)]) (N := sn_is_reading) (sc := defScope s_is_reading) (scope := sx_is_reading_0) (by decide +kernel)) (fun _ _ _ _ _ => pg_name (i := 8) nd rfl (Or.inl rfl)) (fun _ _ _ _ _ => pts_nil) (fun _ _ _ _ _ => pe_ix ix_list (pe_ix ix_list (pv 2) (pv 6) (fun _ _ => rfl)) (pv 8) (fun _ _ => rfl))) (pe_ix ix_list (pv 2) (pv 7) (fun _ _ => rfl)) (nomark _)))))
      (pss_one (ps_ret (pe_bl)))
      (pss_nil)))))))
    (pss_one (ps_ret (pe_bl)))))))
theorem k_is_reading {c : Cfg} {mg : Str → Option Value} {base : Heap} (T : Top c mg) (c_lists_right : Callee c mg base "lists_right" 1 ["hall", "counts", "maps"] (sp_lists_right c)) : Callee c mg base "is_reading" 2 ["hall", "counts", "maps"] (sp_is_reading c) :=
  callee_of T.d_is_reading sc_is_reading (len_is_reading c) (fun _ _ _ _ _ _ us hl => match us, hl with | [_, _, _], _ => rfl) (fun f cdv A outer s H E hr => d_is_reading T c_lists_right f cdv A outer s H E hr) (run_is_reading c T.hall T.isa)
def sp_law_cell (c : Cfg) : Sp := spF c (ι := List Int × Int) (fun x => [.scr x.1, dat x.2]) (fun x => 0 ≤ x.2) 0 (fun x => Dat.d (cellV x.1 x.2))
theorem len_law_cell (c : Cfg) : ∀ vs H Q E, sp_law_cell c vs H Q E → vs.length = 2 := spF_len fun _ => rfl

def sn_law_cell : List Str := ["script", "k", "base"]
theorem sc_law_cell : FnScope sn_law_cell ["script", "k"] (defScope s_law_cell) := ⟨rfl, rfl, rfl, by decide +kernel, rfl, by decide +kernel, by decide +kernel⟩
def t_law_cell (c : Cfg) : TS :=
  (tSeq (tIfS (tTest (tOp zLt (tVar 1) (tCB (lLen c.K) (tCons (tVar 0) tNil))))
      (tRet (tOp (rIxL c.K) (tVar 0) (tVar 1)))
      tNext)
    (tSeq (tAsg (tC (.int 0)) (gName 2))
    (tSeq (tIfS (tTest (tOp zGt (tCB (lLen c.K) (tCons (tVar 0) tNil)) (tC (.int 0))))
      (tAsg (tOp (rIxL c.K) (tVar 0) (tC (.int 0))) (gName 2))
      tNext)
    (tRet (tOp zMod (tOp zAdd (tOp zMul (tOp zMod (tVar 2) (tC (.int 65521))) (tC (.int 48271))) (tOp zMul (tVar 1) (tC (.int 30103)))) (tC (.int 65521)))))))

theorem run_law_cell (c : Cfg) : ∀ vs H Q E, sp_law_cell c vs H Q E → t_law_cell c { nx := fun _ H' => Q .non H', rt := Q } (L2.start sn_law_cell vs) H := by
  refine fn_run (ρ0 := fun x => [some (0, .scr x.1), some (0, dat x.2), none]) (fun _ => rfl) (fun _ => Nat.le_of_ble_eq_true rfl) ?_
  rintro ⟨ns, k⟩ h0
  dsimp only at h0 ⊢
  apply run_seq
  walk_at "if"
  · intro h1
    have h1' := of_decide_eq_true h1
    apply run_retI
    · walk_at "ev"
    exact ⟨rfl, by unfold cellV; rw [if_pos h1']⟩
  · intro h1
    have h1' := of_decide_eq_false h1
    apply run_next
    apply run_seq
    apply run_setT
    · walk_at "ev"
    apply run_seq
    walk_at "if"
    · intro h2
      have h2' := of_decide_eq_true h2
      apply run_setT
      · walk_at "ev"
      apply run_retI
      · apply tx_mod
        · apply tx_add
          · apply tx_mul
            · walk_at "ev"
            · walk_at "ev"
            · exact .inr ⟨by decide, by decide⟩
          · apply tx_mul
            · walk_at "ev"
            · walk_at "ev"
            · exact .inr ⟨by decide, by decide⟩
        · walk_at "ev"
        · decide
      exact ⟨rfl, by unfold cellV; rw [if_neg h1', if_pos h2']⟩
    · intro h2
      have h2' := of_decide_eq_false h2
      apply run_next
      apply run_retI
      · apply tx_mod
        · apply tx_add
          · apply tx_mul
            · walk_at "ev"
            · walk_at "ev"
            · exact .inr ⟨by decide, by decide⟩
          · apply tx_mul
            · walk_at "ev"
            · walk_at "ev"
            · exact .inr ⟨by decide, by decide⟩
        · walk_at "ev"
        · decide
      exact ⟨rfl, by unfold cellV; rw [if_neg h1', if_neg h2']⟩

theorem d_law_cell {c : Cfg} {mg : Str → Option Value} {base : Heap} (T : Top c mg) (f : Addr) (cdv : Value) (A : Around) (outer : List PySem.Env) (s : Shared) (H : Hp) (E : XK) (hr : Room 0 (A.deeper (PyProof.Rows.envOfC "_law_cell" (defScope s_law_cell) s.heap.objs.size f cdv))) :
    PSs (bodyCx c mg base sn_law_cell "_law_cell" s_law_cell f cdv A outer s H E) (defBody s_law_cell) (t_law_cell c) := by
  have nd := sc_law_cell.nd
  exact pss_cons (ps_if (pt_cmpR o_lt (pv 1) (pe_callB c_len (by rfl) T.b_len PySem.boot_len (pa_cons (pv 0) pa_nil)) (nomark _))
      (pss_one (ps_ret (pe_ix ix_list (pv 0) (pv 1) (fun _ _ => rfl))))
      (pss_nil))
    (pss_cons (ps_set (i := 2) nd rfl (Or.inl rfl) (pe_int))
    (pss_cons (ps_if (pt_cmpR o_gt (pe_callB c_len (by rfl) T.b_len PySem.boot_len (pa_cons (pv 0) pa_nil)) (pe_int) (nomark _))
      (pss_one (ps_set (i := 2) nd rfl (Or.inl rfl) (pe_ix ix_list (pv 0) (pe_int) (fun _ _ => rfl))))
      (pss_nil))
    (pss_one (ps_ret (pe_op o_mod (pe_op o_add (pe_op o_mul (pe_op o_mod (pv 2) (pe_int)) (pe_int)) (pe_op o_mul (pv 1) (pe_int))) (pe_int))))))
theorem k_law_cell {c : Cfg} {mg : Str → Option Value} {base : Heap} (T : Top c mg) : Callee c mg base "_law_cell" 1 ["script", "k"] (sp_law_cell c) :=
  callee_of T.d_law_cell sc_law_cell (len_law_cell c) (fun _ _ _ _ _ _ us hl => match us, hl with | [_, _], _ => rfl) (fun f cdv A outer s H E hr => d_law_cell T f cdv A outer s H E hr) (run_law_cell c)
def sp_law_next (c : Cfg) : Sp := spF c (ι := Int) (fun x => [dat x]) (fun _ => True) 0 (fun x => Dat.d (nextV x))
theorem len_law_next (c : Cfg) : ∀ vs H Q E, sp_law_next c vs H Q E → vs.length = 1 := spF_len fun _ => rfl

def sn_law_next : List Str := ["step"]
theorem sc_law_next : FnScope sn_law_next ["step"] (defScope s_law_next) := ⟨rfl, rfl, rfl, by decide +kernel, rfl, by decide +kernel, by decide +kernel⟩
def t_law_next (c : Cfg) : TS :=
  (tRet (tOp zMod (tOp zAdd (tOp zMul (tVar 0) (tC (.int 48271))) (tC (.int 11))) (tC (.int 2147483647))))

theorem run_law_next (c : Cfg) : ∀ vs H Q E, sp_law_next c vs H Q E → t_law_next c { nx := fun _ H' => Q .non H', rt := Q } (L2.start sn_law_next vs) H := by
  refine fn_run (ρ0 := fun x => [some (0, dat x)]) (fun _ => rfl) (fun _ => Nat.le_of_ble_eq_true rfl) ?_
  rintro i _
  apply run_retI
  · apply tx_mod
    · apply tx_add
      · apply tx_mul
        · walk_at "ev"
        · walk_at "ev"
        · exact .inr ⟨by decide, by decide⟩
      · walk_at "ev"
    · walk_at "ev"
    · decide
  exact ⟨rfl, rfl⟩

theorem d_law_next {c : Cfg} {mg : Str → Option Value} {base : Heap} (T : Top c mg) (f : Addr) (cdv : Value) (A : Around) (outer : List PySem.Env) (s : Shared) (H : Hp) (E : XK) (hr : Room 0 (A.deeper (PyProof.Rows.envOfC "_law_next" (defScope s_law_next) s.heap.objs.size f cdv))) :
    PSs (bodyCx c mg base sn_law_next "_law_next" s_law_next f cdv A outer s H E) (defBody s_law_next) (t_law_next c) := by
  have nd := sc_law_next.nd
  exact pss_one (ps_ret (pe_op o_mod (pe_op o_add (pe_op o_mul (pv 0) (pe_int)) (pe_int)) (pe_int)))
theorem k_law_next {c : Cfg} {mg : Str → Option Value} {base : Heap} (T : Top c mg) : Callee c mg base "_law_next" 1 ["step"] (sp_law_next c) :=
  callee_of T.d_law_next sc_law_next (len_law_next c) (fun _ _ _ _ _ _ us hl => match us, hl with | [_], _ => rfl) (fun f cdv A outer s H E hr => d_law_next T f cdv A outer s H E hr) (run_law_next c)
def sp_law_sizes (c : Cfg) : Sp := spF c (ι := List Int × Int) (fun x => [.scr x.1, dat x.2]) (fun x => 0 ≤ x.2) 0 (fun x => Dat.d (sizesOf (cellV x.1 x.2)))
theorem len_law_sizes (c : Cfg) : ∀ vs H Q E, sp_law_sizes c vs H Q E → vs.length = 2 := spF_len fun _ => rfl

def sn_law_sizes : List Str := ["script", "k", "cell", "way", "box"]
def sx_law_sizes_0 : Scope := { kind := .function, names := [(".0", .local), ("box", .local)], isGenerator := false, isCoroutine := false, more := [] }
theorem sc_law_sizes : FnScope sn_law_sizes ["script", "k"] (defScope s_law_sizes) := ⟨rfl, rfl, rfl, by decide +kernel, rfl, by decide +kernel, by decide +kernel⟩
def t_law_sizes (c : Cfg) : TS :=
  (tSeq (tAsg (tCall (sp_law_cell c) [] E0 (tCons (tVar 0) (tCons (tVar 1) tNil))) (gName 2))
    (tSeq (tAsg (tOp zMod (tVar 2) (tC (.int 4))) (gName 3))
    (tSeq (tIfS (tTest (tOp rEq (tVar 3) (tC (.int 0))))
      (tRet (tLc (iRng1 (tCons (tOp zAdd (tC (.int 1)) (tOp zMod (tOp zDiv (tVar 2) (tC (.int 4))) (tC (.int 4)))) tNil)) (gName 4) tYes (tC (.int 1)) [4]))
      tNext)
    (tSeq (tIfS (tTest (tOp rEq (tVar 3) (tC (.int 1))))
      (tRet (tOp (rIxL c.K) (tLst (tCons (tLst (tCons (tC (.int 1)) (tCons (tC (.int 2)) tNil))) (tCons (tLst (tCons (tC (.int 2)) (tCons (tC (.int 1)) tNil))) (tCons (tLst (tCons (tC (.int 2)) (tCons (tC (.int 2)) tNil))) (tCons (tLst (tCons (tC (.int 0)) (tCons (tC (.int 2)) tNil))) (tCons (tLst (tCons (tC (.int 2)) tNil)) (tCons (tLst (tCons (tC (.int 1)) tNil)) tNil))))))) (tOp zMod (tOp zDiv (tVar 2) (tC (.int 4))) (tC (.int 6)))))
      tNext)
    (tSeq (tIfS (tTest (tOp rEq (tVar 3) (tC (.int 2))))
      (tRet (tLst (tCons (tC (.int 3)) tNil)))
      tNext)
    (tRet (tOp (rIxL c.K) (tLst (tCons (tLst (tCons (tC (.int 1)) (tCons (tC (.int 1)) (tCons (tC (.int 2)) tNil)))) (tCons (tLst (tCons (tC (.int 0)) (tCons (tC (.int 1)) (tCons (tC (.int 2)) tNil)))) (tCons (tLst (tCons (tC (.int 1)) (tCons (tC (.int 2)) (tCons (tC (.int 2)) tNil)))) (tCons (tLst (tCons (tC (.int 2)) (tCons (tC (.int 1)) (tCons (tC (.int 0)) tNil)))) (tCons (tLst (tCons (tC (.int 2)) (tCons (tC (.int 2)) tNil))) tNil)))))) (tOp zMod (tOp zDiv (tVar 2) (tC (.int 4))) (tC (.int 5))))))))))

theorem run_law_sizes (c : Cfg) : ∀ vs H Q E, sp_law_sizes c vs H Q E → t_law_sizes c { nx := fun _ H' => Q .non H', rt := Q } (L2.start sn_law_sizes vs) H := by
  refine fn_run (ρ0 := fun x => [some (0, .scr x.1), some (0, dat x.2), none, none, none]) (fun _ => rfl) (fun _ => Nat.le_of_ble_eq_true rfl) ?_
  rintro ⟨ns, k⟩ h0
  dsimp only at h0 ⊢
  generalize hc : cellV ns k = cell
  apply run_seq
  apply run_setT (x := cell)
  · rw [← hc]
    refine tx_call (ns, k) ?_ h0
    exact ea_cons (ex_var rfl) (tea_cons (tx_var rfl) tea_nil)
  dsimp only [List.set]
  apply run_seq
  apply run_setT
  · walk_at "ev"
  dsimp only [List.set]
  apply run_seq
  walk_at "if"
  · intro h1
    have h1' := of_decide_eq_true h1
    apply run_retA ((List.range (1 + cell / 4 % 4).toNat).map (fun _ => (1 : Int)))
    · refine NX.give 1 ?_
      apply nx_lcRm (m := (1 + cell / 4 % 4).toNat) (fun _ => (1 : Int))
      · apply tx_add
        · walk_at "ev"
        · apply tx_mod
          · apply tx_div
            · walk_at "ev"
            · walk_at "ev"
            · exact ⟨by decide, by decide⟩
          · walk_at "ev"
          · decide
      · omega
      · exact fun _ => gt_ni
      · exact fun _ _ => tx_int
      · omega
      · decide
    exact ⟨rfl, by unfold sizesOf; rw [if_pos h1']⟩
  · intro h1
    have h1' := of_decide_eq_false h1
    apply run_next
    apply run_seq
    walk_at "if"
    · intro h2
      have h2' := of_decide_eq_true h2
      apply run_retT
      · apply tx_ix (xs := ([[1, 2], [2, 1], [2, 2], [0, 2], [2], [1]] : List (List Int)))
        · walk_at "ev"
        · apply tx_mod
          · apply tx_div
            · walk_at "ev"
            · walk_at "ev"
            · exact ⟨by decide, by decide⟩
          · walk_at "ev"
          · decide
        · omega
        · show _ < (6 : Int); omega
      exact ⟨rfl, by unfold sizesOf; rw [if_neg h1', if_pos h2']⟩
    · intro h2
      have h2' := of_decide_eq_false h2
      apply run_next
      apply run_seq
      walk_at "if"
      · intro h3
        have h3' := of_decide_eq_true h3
        apply run_retT
        · walk_at "ev"
        exact ⟨rfl, by unfold sizesOf; rw [if_neg h1', if_neg h2', if_pos h3']⟩
      · intro h3
        have h3' := of_decide_eq_false h3
        apply run_next
        apply run_retT
        · apply tx_ix (xs := ([[1, 1, 2], [0, 1, 2], [1, 2, 2], [2, 1, 0], [2, 2]] : List (List Int)))
          · walk_at "ev"
          · apply tx_mod
            · apply tx_div
              · walk_at "ev"
              · walk_at "ev"
              · exact ⟨by decide, by decide⟩
            · walk_at "ev"
            · decide
          · omega
          · show _ < (5 : Int); omega
        exact ⟨rfl, by unfold sizesOf; rw [if_neg h1', if_neg h2', if_neg h3']⟩

theorem d_law_sizes {c : Cfg} {mg : Str → Option Value} {base : Heap} (T : Top c mg) (c_law_cell : Callee c mg base "_law_cell" 1 ["script", "k"] (sp_law_cell c)) (f : Addr) (cdv : Value) (A : Around) (outer : List PySem.Env) (s : Shared) (H : Hp) (E : XK) (hr : Room 1 (A.deeper (PyProof.Rows.envOfC "_law_sizes" (defScope s_law_sizes) s.heap.objs.size f cdv))) :
    PSs (bodyCx c mg base sn_law_sizes "_law_sizes" s_law_sizes f cdv A outer s H E) (defBody s_law_sizes) (t_law_sizes c) := by
  have nd := sc_law_sizes.nd
  exact pss_cons (ps_set (i := 2) nd rfl (Or.inl rfl) (pe_callD c_law_cell rfl rfl rfl (hr.mono (by decide)) (by rfl) (pa_cons (pv 0) (pa_cons (pv 1) pa_nil))))
    (pss_cons (ps_set (i := 3) nd rfl (Or.inl rfl) (pe_op o_mod (pv 2) (pe_int)))
    (pss_cons (ps_if (pt_cmpR op_eq (pv 3) (pe_int) (nomark _))
      (pss_one (ps_ret (pe_lc (own := [("box", 4)]) (g := (gName 4)) (tt := tYes) (wi := (iRng1 (tCons (tOp zAdd (tC (.int 1)) (tOp zMod (tOp zDiv (tVar 2) (tC (.int 4))) (tC (.int 4)))) tNil))) (te := (tC (.int 1))) rfl nd (pi_range1 (by rfl) T.b_range (pa_cons (pe_op o_add (pe_int) (pe_op o_mod (pe_op o_div (pv 2) (pe_int)) (pe_int))) pa_nil)) (blkOk_by (own := [("box", 4)]) (N := sn_law_sizes) (sc := defScope s_law_sizes) (scope := sx_law_sizes_0) (by decide +kernel)) (fun _ _ _ _ _ => pg_name (i := 4) nd rfl (Or.inl rfl)) (fun _ _ _ _ _ => pts_nil) (fun _ _ _ _ _ => pe_int))))
      (pss_nil))
    (pss_cons (ps_if (pt_cmpR op_eq (pv 3) (pe_int) (nomark _))
      (pss_one (ps_ret (pe_ix ix_list (pe_lst (pa_cons (pe_lst (pa_cons (pe_int) (pa_cons (pe_int) pa_nil))) (pa_cons (pe_lst (pa_cons (pe_int) (pa_cons (pe_int) pa_nil))) (pa_cons (pe_lst (pa_cons (pe_int) (pa_cons (pe_int) pa_nil))) (pa_cons (pe_lst (pa_cons (pe_int) (pa_cons (pe_int) pa_nil))) (pa_cons (pe_lst (pa_cons (pe_int) pa_nil)) (pa_cons (pe_lst (pa_cons (pe_int) pa_nil)) pa_nil))))))) (pe_op o_mod (pe_op o_div (pv 2) (pe_int)) (pe_int)) (fun _ _ => rfl))))
      (pss_nil))
    (pss_cons (ps_if (pt_cmpR op_eq (pv 3) (pe_int) (nomark _))
      (pss_one (ps_ret (pe_lst (pa_cons (pe_int) pa_nil))))
      (pss_nil))
    (pss_one (ps_ret (pe_ix ix_list (pe_lst (pa_cons (pe_lst (pa_cons (pe_int) (pa_cons (pe_int) (pa_cons (pe_int) pa_nil)))) (pa_cons (pe_lst (pa_cons (pe_int) (pa_cons (pe_int) (pa_cons (pe_int) pa_nil)))) (pa_cons (pe_lst (pa_cons (pe_int) (pa_cons (pe_int) (pa_cons (pe_int) pa_nil)))) (pa_cons (pe_lst (pa_cons (pe_int) (pa_cons (pe_int) (pa_cons (pe_int) pa_nil)))) (pa_cons (pe_lst (pa_cons (pe_int) (pa_cons (pe_int) pa_nil))) pa_nil)))))) (pe_op o_mod (pe_op o_div (pv 2) (pe_int)) (pe_int)) (fun _ _ => rfl))))))))
theorem k_law_sizes {c : Cfg} {mg : Str → Option Value} {base : Heap} (T : Top c mg) (c_law_cell : Callee c mg base "_law_cell" 1 ["script", "k"] (sp_law_cell c)) : Callee c mg base "_law_sizes" 2 ["script", "k"] (sp_law_sizes c) :=
  callee_of T.d_law_sizes sc_law_sizes (len_law_sizes c) (fun _ _ _ _ _ _ us hl => match us, hl with | [_, _], _ => rfl) (fun f cdv A outer s H E hr => d_law_sizes T c_law_cell f cdv A outer s H E hr) (run_law_sizes c)
def sp_law_closed (c : Cfg) : Sp := spMv c (ι := List Int × List Arr) (fun z => z.2) (fun z => z.1 ∈ allSizes ∧ z.2.Nodup ∧ ∀ a ∈ z.2, AOk z.1 a) (fun z ys => Ext z.1 z.2 ys ∧ ∀ f ∈ ys, ∀ g ∈ ys, f.b = g.a → comp f g ∈ ys)
theorem len_law_closed (c : Cfg) : ∀ vs H Q E, sp_law_closed c vs H Q E → vs.length = 1 := spMv_len

def sn_law_closed : List Str := ["known", "met", "arrow", "at", "other", "first", "second", "made", "x"]
def sx_law_closed_0 : Scope := { kind := .function, names := [(".0", .local), ("x", .local), ("second", .free)], isGenerator := false, isCoroutine := false, more := [] }
def sxr_law_closed_0 : Scope := { kind := .function, names := [(".0", .local), ("x", .local), ("second", .cell)], isGenerator := false, isCoroutine := false, more := [] }
theorem sc_law_closed : FnScope sn_law_closed ["known"] (defScope s_law_closed) := ⟨rfl, rfl, rfl, by decide +kernel, rfl, by decide +kernel, by decide +kernel⟩
def t_law_closed (c : Cfg) : TS :=
  (tSeq (tAsg (tNNew c) (gName 1))
    (tSeq (tFor (iList c.K (tVar 0)) (gName 2)
      (sNPut c (tVar 1) (tVar 2) (tC (.bl true))))
    (tSeq (tAsg (tC (.int 0)) (gName 3))
    (tSeq (tWhile (tTest (tOp zLt (tVar 3) (tCB (lLen c.K) (tCons (tVar 0) tNil))))
      (tSeq (tFor (iList c.K (tCB (lList c.K) (tCons (tVar 0) tNil))) (gName 4)
      (tFor (iList c.K (tLst (tCons (tTup (tCons (tOp (rIxL c.K) (tVar 0) (tVar 3)) (tCons (tVar 4) tNil))) (tCons (tTup (tCons (tVar 4) (tCons (tOp (rIxL c.K) (tVar 0) (tVar 3)) tNil))) tNil)))) (gTup c.K 2 (gCons (gName 5) (gCons (gName 6) gNil)))
      (tIfS (tTest (tOp rEq (tOp (rIxT c.K) (tVar 5) (tC (.int 1))) (tOp (rIxT c.K) (tVar 6) (tC (.int 0)))))
      (tSeq (tAsg (tTup (tCons (tOp (rIxT c.K) (tVar 5) (tC (.int 0))) (tCons (tOp (rIxT c.K) (tVar 6) (tC (.int 1))) (tCons (tThen (tLc (iTup c.K (tOp (rIxT c.K) (tVar 5) (tC (.int 2)))) (gName 8) tYes (tOp (rIxT c.K) (tOp (rIxT c.K) (tVar 6) (tC (.int 2))) (tVar 8)) [8]) (kTup c.K)) tNil)))) (gName 7))
    (tIfS (tB (tNNotIn c (tVar 7) (tVar 1)))
      (tSeq (sNPut c (tVar 1) (tVar 7) (tC (.bl true)))
    (tDrop (tBM c.K "list" rAppend (tVar 0) (tCons (tVar 7) tNil))))
      tNext))
      tNext)))
    (tAsg (tOp zAdd (tVar 3) (tC (.int 1))) (gName 3))))
    (tRet (tVar 0))))))

theorem run_law_closed (c : Cfg) : ∀ vs H Q E, sp_law_closed c vs H Q E → t_law_closed c { nx := fun _ H' => Q .non H', rt := Q } (L2.start sn_law_closed vs) H := by
  refine fn_runMv (ρ0 := fun x => [some (1, dat x.2), none, none, none, none, none, none, none, none]) (Nat.le_of_ble_eq_true rfl) (fun _ => rfl) ?_
  rintro ⟨sz, k0⟩ ⟨hsz, hnd, hok⟩
  dsimp only at hsz hnd hok ⊢
  apply run_seq
  refine run_set ex_nnew ?_
  dsimp only [List.set]
  apply run_seq
  refine run_forO (l := 0) k0 Dat.d (fun v i ρ' => ∃ a, ρ' = [some (0, .raw v), some (1, .dic (metOf (k0.take i))), a, none, none, none, none, none, none]) rfl (fun _ => gt_nm) (fun v => ⟨_, rfl⟩) ?_ ?_ ?_
  · rintro v i ρ' ⟨a, rfl⟩
    rfl
  · rintro v i x ρ' hx ⟨a, rfl⟩
    dsimp only [List.set]
    have hc := ok_count hsz hnd hok
    apply run_nputB (b := true) rfl (tx_var (x := x) rfl) (ktop_arr x) bx_bl (by rw [met_len, List.length_take]; omega)
    refine ⟨some (0, dat x), ?_⟩
    dsimp only [List.set]
    have hn : x ∉ k0.take i := by
      intro h
      have h1 := hnd
      rw [← List.take_append_drop i k0, List.nodup_append] at h1
      have h2 : x ∈ k0.drop i := List.mem_of_getElem? (i := 0) (by rw [List.getElem?_drop]; exact hx)
      exact h1.2.2 x h x h2 rfl
    rw [met_put hn, ← take_at hx]
  rintro v ρ' ⟨a, rfl⟩
  rw [List.take_length]
  dsimp only [List.set]
  apply run_seq
  apply run_setT
  · exact tx_int
  dsimp only [List.set]
  apply run_seq
  refine run_while (fun m ρ' => ∃ (ks : List Arr) (at_ : Nat) (a2 a4 a5 a6 a7 a8 : Option (Nat × D)), WkC sz k0 ks at_ ∧ m = 41 - at_ ∧ ρ' = [some (1, dat ks), some (1, .dic (metOf ks)), a2, some (0, dat (at_ : Int)), a4, a5, a6, a7, a8]) 41
    ⟨k0, 0, _, _, _, _, _, _, ⟨.refl hnd hok, Nat.zero_le _, fun i j f g h => absurd h (Nat.not_lt_zero _)⟩, rfl, rfl⟩ ?_
  rintro m ρ' ⟨ks, n, a2, a4, a5, a6, a7, a8, w, rfl, rfl⟩
  have hcount : ∀ {l : List Arr}, Ext sz ks l → l.length ≤ 40 := fun e => ok_count hsz e.nd e.ok
  have hks := hcount (.refl w.ex.nd w.ex.ok)
  refine ⟨decide ((n : Int) < (ks.length : Int)), by walk_at "ev", fun ht => ?_, fun hf => ?_⟩
  · have hlt : n < ks.length := by have := of_decide_eq_true ht; omega
    obtain ⟨f0, hf0⟩ : ∃ f0, ks[n]? = some f0 := ⟨_, List.getElem?_eq_getElem hlt⟩
    have of0 := w.ex.ok f0 (List.mem_of_getElem? hf0)
    apply run_seq
    apply run_forLT ks (fun i ρ' => ∃ (k1 : List Arr) (a4 a5 a6 a7 a8 : Option (Nat × D)), Ext sz ks k1 ∧ (∀ (j : Nat) g, j < i → ks[j]? = some g → Has k1 f0 g ∧ Has k1 g f0) ∧ ρ' = [some (1, dat k1), some (1, .dic (metOf k1)), a2, some (0, dat (n : Int)), a4, a5, a6, a7, a8]) (nx_listO rfl).tx (fun _ => gt_nm)
      ⟨ks, _, _, _, _, _, .refl w.ex.nd w.ex.ok, fun j g h => absurd h (Nat.not_lt_zero _), rfl⟩
    · rintro i o ρ' ho ⟨k1, b4, b5, b6, b7, b8, e1, hh, rfl⟩
      dsimp only [List.set]
      have oo := w.ex.ok o (List.mem_of_getElem? ho)
      have hk1 := hcount e1
      have hf1 : at' k1 (n : Int) = f0 := at_nat (e1.get hf0)
      have hle := e1.len
      have hlt1 : n < k1.length := by omega
      have hpair : TX c (tLst (tCons (tTup (tCons (tOp (rIxL c.K) (tVar 0) (tVar 3)) (tCons (tVar 4) tNil))) (tCons (tTup (tCons (tVar 4) (tCons (tOp (rIxL c.K) (tVar 0) (tVar 3)) tNil))) tNil))) [some (1, dat k1), some (1, .dic (metOf k1)), a2, some (0, dat (n : Int)), some (0, dat o), b5, b6, b7, b8] [(f0, o), (o, f0)] := by
        rw [← hf1]
        walk_at "ev"
      apply run_forLT [(f0, o), (o, f0)] (fun i2 ρ' => ∃ (k2 : List Arr) (a5 a6 a7 a8 : Option (Nat × D)), Ext sz k1 k2 ∧ (∀ (j : Nat) (p : Arr × Arr), j < i2 → [(f0, o), (o, f0)][j]? = some p → Has k2 p.1 p.2) ∧ ρ' = [some (1, dat k2), some (1, .dic (metOf k2)), a2, some (0, dat (n : Int)), some (0, dat o), a5, a6, a7, a8]) hpair (fun _ => gt_pair)
        ⟨k1, _, _, _, _, .refl e1.nd e1.ok, fun j g h => absurd h (Nat.not_lt_zero _), rfl⟩
      · rintro i2 ⟨p, q⟩ ρ' hp ⟨k2, d5, d6, d7, d8, e2, hh2, rfl⟩
        dsimp only [List.set]
        have hk2 := hcount (e1.trans e2)
        have hpq : AOk sz p ∧ AOk sz q := by
          rcases List.mem_cons.mp (List.mem_of_getElem? hp) with z | z
          · cases z; exact ⟨of0, oo⟩
          · rcases List.mem_cons.mp z with z | z
            · cases z; exact ⟨oo, of0⟩
            · cases z
        have next : ∀ k3, Ext sz k2 k3 → Has k3 p q → ∀ (j : Nat) (r : Arr × Arr), j < i2 + 1 → [(f0, o), (o, f0)][j]? = some r → Has k3 r.1 r.2 := fun k3 e3 hq j r hj hr => by
          by_cases z : j = i2
          · rw [z, hp] at hr
            cases hr
            exact hq
          · exact (hh2 j r (by omega) hr).more e3.sub
        walk_at "if"
        · intro hb
          have hb' := of_decide_eq_true hb
          apply run_seq
          have hmade : NX c (tTup (tCons (tOp (rIxT c.K) (tVar 5) (tC (.int 0))) (tCons (tOp (rIxT c.K) (tVar 6) (tC (.int 1))) (tCons (tThen (tLc (iTup c.K (tOp (rIxT c.K) (tVar 5) (tC (.int 2)))) (gName 8) tYes (tOp (rIxT c.K) (tOp (rIxT c.K) (tVar 6) (tC (.int 2))) (tVar 8)) [8]) (kTup c.K)) tNil)))) [some (1, dat k2), some (1, .dic (metOf k2)), a2, some (0, dat (n : Int)), some (0, dat o), some (0, dat p), some (0, dat q), d7, d8] 1 (comp p q) := by
            apply nx_tup3
            · walk_at "ev"
            · walk_at "ev"
            · refine NX.give 1 (nx_tupOf (NX.give 1 ?_))
              apply nx_lcTm p.c (fun x => at' q.c.l x)
              · walk_at "ev"
              · exact fun _ => gt_nm
              · intro x hx
                obtain ⟨x0, x1⟩ := hpq.1.low x hx
                have x2 := hpq.2.len
                rw [← hb'] at x2
                apply TX.nx
                walk_at "ev"
              · have := hpq.1.len
                have := (all_small sz hsz).1 _ (at_mem hpq.1.a0 hpq.1.a1)
                omega
              · decide
          refine run_set (EX.give hmade) ?_
          dsimp only [List.set]
          apply run_if
          · exact etB (bx_nnotin (tx_var (x := comp p q) rfl) rfl (ktop_arr _))
          · rw [met_has]
            intro hc
            have hc' : comp p q ∉ k2 := by simpa using hc
            apply run_seq
            apply run_nputB (b := true) rfl (tx_var (x := comp p q) rfl) (ktop_arr _) bx_bl (by rw [met_len]; omega)
            dsimp only [List.set]
            rw [met_put hc']
            apply run_appT (n := 0) (xs := k2) rfl (TX.nx (tx_var (x := comp p q) rfl)) (by omega)
            have e3 : Ext sz k2 (k2 ++ [comp p q]) := Ext.snoc (.refl e2.nd e2.ok) hc' (comp_ok hpq.1 hpq.2 hb')
            exact ⟨k2 ++ [comp p q], _, _, _, _, e2.trans e3, next _ e3 (fun _ => List.mem_append_right _ (List.mem_singleton.mpr rfl)), rfl⟩
          · rw [met_has]
            intro hc
            have hc' : comp p q ∈ k2 := by simpa using hc
            exact run_next ⟨k2, _, _, _, _, e2, next k2 (.refl e2.nd e2.ok) (fun _ => hc'), rfl⟩
        · intro hb
          have hb' := of_decide_eq_false hb
          exact run_next ⟨k2, _, _, _, _, e2, next k2 (.refl e2.nd e2.ok) (fun z => absurd z hb'), rfl⟩
      · rintro ρ' ⟨k2, d5, d6, d7, d8, e2, hh2, rfl⟩
        refine ⟨k2, _, _, _, _, _, e1.trans e2, fun j g hj hg => ?_, rfl⟩
        by_cases z : j = i
        · rw [z, ho] at hg
          cases hg
          exact ⟨hh2 0 (f0, o) (by show 0 < 2; decide) rfl, hh2 1 (o, f0) (by show 1 < 2; decide) rfl⟩
        · have := hh j g (by omega) hg
          exact ⟨this.1.more e2.sub, this.2.more e2.sub⟩
    · rintro ρ' ⟨k1, b4, b5, b6, b7, b8, e1, hh, rfl⟩
      apply run_setT
      · walk_at "ev"
      dsimp only [List.set]
      exact ⟨41 - (n + 1), by omega, k1, n + 1, _, _, _, _, _, _, w.step hlt e1 hf0 hh, rfl, rfl⟩
  · have hge : ks.length ≤ n := by have := of_decide_eq_false hf; omega
    refine run_retV rfl ⟨rfl, ks, rfl, w.ex, w.done hge⟩

theorem d_law_closed {c : Cfg} {mg : Str → Option Value} {base : Heap} (T : Top c mg) (f : Addr) (cdv : Value) (A : Around) (outer : List PySem.Env) (s : Shared) (H : Hp) (E : XK) (hr : Room 0 (A.deeper (PyProof.Rows.envOfC "_law_closed" (defScope s_law_closed) s.heap.objs.size f cdv))) :
    PSs (bodyCx c mg base sn_law_closed "_law_closed" s_law_closed f cdv A outer s H E) (defBody s_law_closed) (t_law_closed c) := by
  have nd := sc_law_closed.nd
  exact pss_cons (ps_set (i := 1) nd rfl (Or.inl rfl) (pe_ndnew))
    (pss_cons (ps_for PassesOwn.never rfl (pi_list (pv 0)) (pg_name (i := 2) nd rfl (Or.inl rfl))
      (pss_one (ps_nput hr.units (pv 1) (pv 2) (pe_bl) rfl)))
    (pss_cons (ps_set (i := 3) nd rfl (Or.inl rfl) (pe_int))
    (pss_cons (ps_while PassesOwn.never (pt_cmpR o_lt (pv 3) (pe_callB c_len (by rfl) T.b_len PySem.boot_len (pa_cons (pv 0) pa_nil)) (nomark _))
      (pss_cons (ps_for PassesOwn.never rfl (pi_list (pe_callTy c_list (by rfl) T.b_list (by decide +kernel) (pa_cons (pv 0) pa_nil))) (pg_name (i := 4) nd rfl (Or.inl rfl))
      (pss_one (ps_for PassesOwn.never rfl (pi_list (pe_lst (pa_cons (pe_tup (pa_cons (pe_ix ix_list (pv 0) (pv 3) (fun _ _ => rfl)) (pa_cons (pv 4) pa_nil))) (pa_cons (pe_tup (pa_cons (pv 4) (pa_cons (pe_ix ix_list (pv 0) (pv 3) (fun _ _ => rfl)) pa_nil))) pa_nil)))) (pg_tup rfl (pgs_cons (pg_name (i := 5) nd rfl (Or.inl rfl)) (pgs_cons (pg_name (i := 6) nd rfl (Or.inr rfl)) pgs_nil)))
      (pss_one (ps_if (pt_cmpR op_eq (pe_ix ix_tup (pv 5) (pe_int) (fun _ _ => rfl)) (pe_ix ix_tup (pv 6) (pe_int) (fun _ _ => rfl)) (nomark _))
      (pss_cons (ps_set (i := 7) nd rfl (Or.inl rfl) (pe_tup (pa_cons (pe_ix ix_tup (pv 5) (pe_int) (fun _ _ => rfl)) (pa_cons (pe_ix ix_tup (pv 6) (pe_int) (fun _ _ => rfl)) (pa_cons (pe_tupleOf (by rfl) T.b_tuple (pe_lc (own := [("x", 8)]) (g := (gName 8)) (tt := tYes) (wi := (iTup c.K (tOp (rIxT c.K) (tVar 5) (tC (.int 2))))) (te := (tOp (rIxT c.K) (tOp (rIxT c.K) (tVar 6) (tC (.int 2))) (tVar 8))) rfl nd (pi_tup (pe_ix ix_tup (pv 5) (pe_int) (fun _ _ => rfl))) (blkOk_by (own := [("x", 8)]) (N := sn_law_closed) (sc := defScope s_law_closed) (scope := sx_law_closed_0) (by decide +kernel)) (fun _ _ _ _ _ => pg_name (i := 8) nd rfl (Or.inl rfl)) (fun _ _ _ _ _ => pts_nil) (fun _ _ _ _ _ => pe_ix ix_tup (pe_ix ix_tup (pv 6) (pe_int) (fun _ _ => rfl)) (pv 8) (fun _ _ => rfl)))) pa_nil)))))
    (pss_one (ps_if (pt_cmp (pc_nnotinD hr.units (pv 7) (pv 1)))
      (pss_cons (ps_nput hr.units (pv 1) (pv 7) (pe_bl) rfl)
    (pss_one (ps_expr (pe_bm PySem.F.plainAttrs_list PySem.F.slot_list_append PySem.F.type_list_append mt_append (pv 0) (pa_cons (pv 7) pa_nil)))))
      (pss_nil))))
      (pss_nil))))))
    (pss_one (ps_set (i := 3) nd rfl (Or.inl rfl) (pe_op o_add (pv 3) (pe_int))))))
    (pss_one (ps_ret (pv 0))))))
theorem k_law_closed {c : Cfg} {mg : Str → Option Value} {base : Heap} (T : Top c mg) : Callee c mg base "_law_closed" 1 ["known"] (sp_law_closed c) :=
  callee_of T.d_law_closed sc_law_closed (len_law_closed c) (fun _ _ _ _ _ _ us hl => match us, hl with | [_], _ => rfl) (fun f cdv A outer s H E hr => d_law_closed T f cdv A outer s H E hr) (run_law_closed c)
def sp_law_arrows (c : Cfg) : Sp := spG c (ι := List Int × Int × List Int) (fun z => [.scr z.1, dat z.2.1, dat z.2.2]) (fun z => 0 ≤ z.2.1 ∧ z.2.2 ∈ allSizes) 0 (fun z d => ∃ known, d = Dat.d known ∧ GoodA z.2.2 known)
theorem len_law_arrows (c : Cfg) : ∀ vs H Q E, sp_law_arrows c vs H Q E → vs.length = 3 := spG_len fun _ => rfl

def sn_law_arrows : List Str := ["script", "k", "sizes", "known", "step", "turn", "one", "other", "row", "x", "mixed", "arrow", "box"]
def sx_law_arrows_0 : Scope := { kind := .function, names := [(".0", .local), ("box", .local), ("tuple", .globalImplicit), ("range", .globalImplicit), ("sizes", .free)], isGenerator := false, isCoroutine := false, more := [] }
def sxr_law_arrows_0 : Scope := { kind := .function, names := [(".0", .local), ("box", .local), ("tuple", .globalImplicit), ("range", .globalImplicit), ("sizes", .cell)], isGenerator := false, isCoroutine := false, more := [] }
theorem sc_law_arrows : FnScope sn_law_arrows ["script", "k", "sizes"] (defScope s_law_arrows) := ⟨rfl, rfl, rfl, by decide +kernel, rfl, by decide +kernel, by decide +kernel⟩
def t_law_arrows (c : Cfg) : TS :=
  (tSeq (tAsg (tLc (iRng1 (tCons (tCB (lLen c.K) (tCons (tVar 2) tNil)) tNil)) (gName 12) tYes (tTup (tCons (tVar 12) (tCons (tVar 12) (tCons (tTupRg (tRg1 (tOp (rIxL c.K) (tVar 2) (tVar 12)))) tNil)))) [12]) (gName 3))
    (tSeq (tAsg (tCall (sp_law_next c) [] E0 (tCons (tOp zAdd (tOp zMod (tOp zMul (tCall (sp_law_cell c) [] E0 (tCons (tVar 0) (tCons (tVar 1) tNil))) (tC (.int 1000003))) (tC (.int 2147483647))) (tC (.int 17))) tNil)) (gName 4))
    (tSeq (tFor (iRng1 (tCons (tOp zMod (tCall (sp_law_cell c) [] E0 (tCons (tVar 0) (tCons (tOp zAdd (tVar 1) (tC (.int 1))) tNil))) (tC (.int 5))) tNil)) (gName 5)
      (tSeq (tAsg (tCall (sp_law_next c) [] E0 (tCons (tVar 4) tNil)) (gName 4))
    (tSeq (tAsg (tOp zMod (tOp zDiv (tVar 4) (tC (.int 64))) (tCB (lLen c.K) (tCons (tVar 2) tNil))) (gName 6))
    (tSeq (tAsg (tCall (sp_law_next c) [] E0 (tCons (tVar 4) tNil)) (gName 4))
    (tSeq (tAsg (tOp zMod (tOp zDiv (tVar 4) (tC (.int 64))) (tCB (lLen c.K) (tCons (tVar 2) tNil))) (gName 7))
    (tSeq (tAsg (tLst tNil) (gName 8))
    (tSeq (tFor (iRng1 (tCons (tOp (rIxL c.K) (tVar 2) (tVar 6)) tNil)) (gName 9)
      (tSeq (tAsg (tCall (sp_law_next c) [] E0 (tCons (tVar 4) tNil)) (gName 4))
    (tIfS (tTest (tOp rEq (tOp (rIxL c.K) (tVar 2) (tVar 6)) (tC (.int 3))))
      (tDrop (tBM c.K "list" zIns (tVar 8) (tCons (tOp zMod (tOp zDiv (tVar 4) (tC (.int 64))) (tOp zAdd (tVar 9) (tC (.int 1)))) (tCons (tVar 9) tNil))))
      (tDrop (tBM c.K "list" rAppend (tVar 8) (tCons (tOp zMod (tOp zDiv (tVar 4) (tC (.int 64))) (tCB lMax2 (tCons (tC (.int 1)) (tCons (tOp (rIxL c.K) (tVar 2) (tVar 7)) tNil)))) tNil))))))
    (tIfS (tOr (tTest (tOp rEq (tOp (rIxL c.K) (tVar 2) (tVar 6)) (tC (.int 0)))) (tTest (tOp zGt (tOp (rIxL c.K) (tVar 2) (tVar 7)) (tC (.int 0)))))
      (tIfS (tTest (tOp (rNotInD c.K) (tTup (tCons (tVar 6) (tCons (tVar 7) (tCons (tThen (tVar 8) (kTup c.K)) tNil)))) (tVar 3)))
      (tDrop (tBM c.K "list" rAppend (tVar 3) (tCons (tTup (tCons (tVar 6) (tCons (tVar 7) (tCons (tThen (tVar 8) (kTup c.K)) tNil)))) tNil)))
      tNext)
      tNext))))))))
    (tSeq (tAsg (tCall (sp_law_closed c) [] E0 (tCons (tVar 3) tNil)) (gName 3))
    (tSeq (tAsg (tLst tNil) (gName 10))
    (tSeq (tFor (iList c.K (tVar 3)) (gName 11)
      (tSeq (tAsg (tCall (sp_law_next c) [] E0 (tCons (tVar 4) tNil)) (gName 4))
    (tDrop (tBM c.K "list" zIns (tVar 10) (tCons (tOp zMod (tOp zDiv (tVar 4) (tC (.int 64))) (tOp zAdd (tCB (lLen c.K) (tCons (tVar 10) tNil)) (tC (.int 1)))) (tCons (tVar 11) tNil))))))
    (tRet (tVar 10))))))))

theorem run_law_arrows (c : Cfg) : ∀ vs H Q E, sp_law_arrows c vs H Q E → t_law_arrows c { nx := fun _ H' => Q .non H', rt := Q } (L2.start sn_law_arrows vs) H := by
  refine fn_runR (ρ0 := fun x => [some (0, .scr x.1), some (0, dat x.2.1), some (0, dat x.2.2), none, none, none, none, none, none, none, none, none, none]) (fun _ => rfl) (fun _ => Nat.le_of_ble_eq_true rfl) ?_
  rintro ⟨ns, k, sz⟩ ⟨hk, hsz⟩
  dsimp only at hk hsz ⊢
  obtain ⟨s1, s2, s3⟩ := all_small sz hsz
  have szb : ∀ {i : Int}, 0 ≤ i → i < sz.length → 0 ≤ at' sz i ∧ at' sz i ≤ 3 := fun h0 h1 => s1 _ (at_mem h0 h1)
  apply run_seq
  apply run_setO 1 ((List.range sz.length).map (idA sz))
  · apply nx_lcRm (m := sz.length) (idA sz)
    · walk_at "ev"
    · rfl
    · exact fun _ => gt_ni
    · intro b hb
      obtain ⟨b0, b1⟩ := szb (i := (b : Int)) (by omega) (by omega)
      refine (NX.give 1 ?_).nx
      apply nx_tup3
      · walk_at "ev"
      · walk_at "ev"
      · refine NX.give 1 (nx_tupRg (i := at' sz (b : Int)) ?_ ?_ ?_)
        · walk_at "ev"
        · omega
        · omega
    · omega
    · decide
  dsimp only [List.set]
  have hcell : ∀ (ρ : Rho) (i : Int) (ti : TE), 0 ≤ i → ρ[0]? = some (some (0, .scr ns)) → TX c ti ρ i → TX c (tCall (sp_law_cell c) [] E0 (tCons (tVar 0) (tCons ti tNil))) ρ (cellV ns i) := fun ρ i ti h0 h1 h2 =>
    tx_call (ns, i) (ea_cons (ex_var h1) (tea_cons h2 tea_nil)) h0
  have hnext : ∀ (ρ : Rho) (i : Int) (ti : TE), TX c ti ρ i → TX c (tCall (sp_law_next c) [] E0 (tCons ti tNil)) ρ (nextV i) := fun ρ i ti h2 => tx_call i (tea_cons h2 tea_nil) trivial
  apply run_seq
  apply run_setT
  · apply hnext
    apply tx_add
    · apply tx_mod
      · apply tx_mul
        · apply hcell
          · exact hk
          · rfl
          · walk_at "ev"
        · walk_at "ev"
        · exact .inr ⟨by decide, by decide⟩
      · walk_at "ev"
      · decide
    · walk_at "ev"
  dsimp only [List.set]
  apply run_seq
  apply run_forRT (m := (cellV ns (k + 1) % 5).toNat) (fun _ ρ' => ∃ (ks : List Arr) (st : Int) (a5 a6 a7 a8 a9 : Option (Nat × D)), Ext sz ((List.range sz.length).map (idA sz)) ks ∧ ρ' = [some (0, .scr ns), some (0, dat k), some (0, dat sz), some (1, dat ks), some (0, dat st), a5, a6, a7, a8, a9, none, none, none])
  · apply tx_mod
    · apply hcell
      · show 0 ≤ k + 1; omega
      · rfl
      · walk_at "ev"
    · walk_at "ev"
    · decide
  · omega
  · omega
  · refine ⟨_, _, _, _, _, _, _, .refl ?_ ?_, rfl⟩
    · refine List.nodup_map_of ?_ List.nodup_range
      intro a b h
      have : ((a : Int)) = (b : Int) := congrArg Tri.a h
      omega
    · intro a ha
      obtain ⟨b, hb, rfl⟩ := List.mem_map.mp ha
      exact id_ok (List.mem_range.mp hb) fun x hx => (s1 x hx).1
  · rintro i ρ' hi ⟨ks, st, a5, a6, a7, a8, a9, hE, rfl⟩
    have hks := ok_count hsz hE.nd hE.ok
    dsimp only [List.set]
    apply run_seq
    apply run_setT
    · apply hnext
      walk_at "ev"
    dsimp only [List.set]
    apply run_seq
    apply run_setT
    · walk_at "ev"
    dsimp only [List.set]
    apply run_seq
    apply run_setT
    · apply hnext
      walk_at "ev"
    dsimp only [List.set]
    apply run_seq
    apply run_setT
    · walk_at "ev"
    dsimp only [List.set]
    generalize hone : nextV st / 64 % (sz.length : Int) = one
    generalize hoth : nextV (nextV st) / 64 % (sz.length : Int) = other
    have one0 : 0 ≤ one ∧ one < sz.length := hone ▸ ⟨Int.emod_nonneg _ (by omega), Int.emod_lt_of_pos _ (by omega)⟩
    have oth0 : 0 ≤ other ∧ other < sz.length := hoth ▸ ⟨Int.emod_nonneg _ (by omega), Int.emod_lt_of_pos _ (by omega)⟩
    obtain ⟨p0, p1⟩ := szb one0.1 one0.2
    obtain ⟨q0, q1⟩ := szb oth0.1 oth0.2
    apply run_seq
    apply run_setO 1 ([] : List Int) nx_nil
    dsimp only [List.set]
    apply run_seq
    apply run_forRT (m := (at' sz one).toNat) (fun n ρ' => ∃ (st : Int) (row : List Int) (a9 : Option (Nat × D)), row.length = n ∧ (∀ x ∈ row, 0 ≤ x ∧ x < (if at' sz other > 1 then at' sz other else 1)) ∧ ρ' = [some (0, .scr ns), some (0, dat k), some (0, dat sz), some (1, dat ks), some (0, dat st), some (0, dat (i : Int)), some (0, dat one), some (0, dat other), some (1, dat row), a9, none, none, none])
    · walk_at "ev"
    · omega
    · omega
    · exact ⟨_, [], _, rfl, (fun x hx => by cases hx), rfl⟩
    · rintro j ρ' hj ⟨st, row, a9, hl, hrow, rfl⟩
      dsimp only [List.set]
      apply run_seq
      apply run_setT
      · apply hnext
        walk_at "ev"
      dsimp only [List.set]
      walk_at "if"
      · intro h3
        have h3' := of_decide_eq_true h3
        have ho3 : at' sz other = 3 := all_three sz hsz _ (at_mem one0.1 one0.2) h3' _ (at_mem oth0.1 oth0.2)
        have i0 : 0 ≤ nextV st / 64 % ((j : Int) + 1) := Int.emod_nonneg _ (by omega)
        have i1 : nextV st / 64 % ((j : Int) + 1) < (j : Int) + 1 := Int.emod_lt_of_pos _ (by omega)
        apply run_insT (n := 0) (xs := row) (x := (j : Int)) rfl
        · walk_at "ev"
        · exact tx_var rfl
        · omega
        · omega
        · omega
        dsimp only [List.set]
        refine ⟨_, _, _, ?_, ?_, rfl⟩
        · simp only [List.length_append, List.length_take, List.length_drop, List.length_singleton]
          omega
        · intro x hx
          simp only [List.mem_append, List.mem_singleton] at hx
          rcases hx with (hx | hx) | hx
          · exact hrow x (List.mem_of_mem_take hx)
          · rw [hx, ho3]
            rw [if_pos (by decide)]
            omega
          · exact hrow x (List.mem_of_mem_drop hx)
      · intro h3
        apply run_appT (n := 0) (xs := row) rfl
        · apply TX.nx
          apply tx_mod
          · walk_at "ev"
          · walk_at "ev"
          · split <;> omega
        · omega
        · dsimp only [List.set]
          refine ⟨_, _, _, ?_, ?_, rfl⟩
          · rw [List.length_append, hl]
            rfl
          · intro x hx
            rcases List.mem_append.mp hx with hx | hx
            · exact hrow x hx
            · rw [List.mem_singleton.mp hx]
              have : (0 : Int) < (if at' sz other > 1 then at' sz other else 1) := by split <;> omega
              exact ⟨Int.emod_nonneg _ (by omega), Int.emod_lt_of_pos _ this⟩
    · rintro ρ' ⟨st, row, a9, hl, hrow, rfl⟩
      walk_at "if"
      · intro hc
        simp only [Bool.or_eq_true, decide_eq_true_eq] at hc
        have harr : AOk sz ⟨one, other, ⟨row⟩⟩ := by
          refine ⟨one0.1, one0.2, oth0.1, oth0.2, ?_, fun x hx => ?_⟩
          · show (row.length : Int) = at' sz one
            omega
          · have hx' : x ∈ row := hx
            obtain ⟨x0, x1⟩ := hrow x hx'
            refine ⟨x0, ?_⟩
            show x < at' sz other
            rcases hc with hc | hc
            · have : row.length = 0 := by omega
              rw [List.length_eq_zero_iff] at this
              rw [this] at hx'
              cases hx'
            · split at x1 <;> omega
        walk_at "if"
        · rw [memT_dec]
          intro hn
          have hn' : (⟨one, other, ⟨row⟩⟩ : Arr) ∉ ks := by simpa using hn
          apply run_appT (n := 0) (xs := ks) (x := (⟨one, other, ⟨row⟩⟩ : Arr)) rfl
          · refine (NX.give 1 ?_).nx
            apply nx_tup3
            · walk_at "ev"
            · walk_at "ev"
            · exact (nx_tupO rfl).tx
          · omega
          · dsimp only [List.set]
            exact ⟨_, _, _, _, _, _, _, hE.snoc hn' harr, rfl⟩
        · intro _
          exact run_next ⟨_, _, _, _, _, _, _, hE, rfl⟩
      · intro _
        exact run_next ⟨_, _, _, _, _, _, _, hE, rfl⟩
  · rintro ρ' ⟨ks, st, a5, a6, a7, a8, a9, hE, rfl⟩
    apply run_seq
    apply run_setMv (i := 3) (sz, ks) rfl ⟨hsz, hE.nd, hE.ok⟩
    rintro ys ⟨hY, hcl⟩
    dsimp only [List.set]
    have hys := ok_count hsz hY.nd hY.ok
    refine run_give (i := 3) rfl ?_
    dsimp only [List.set]
    apply run_seq
    apply run_setO 1 ([] : List Arr) nx_nil
    dsimp only [List.set]
    apply run_seq
    apply run_forLT ys (fun i ρ' => ∃ (st : Int) (mx : List Arr) (a11 : Option (Nat × D)), mx.Perm (ys.take i) ∧ ρ' = [some (0, .scr ns), some (0, dat k), some (0, dat sz), some (0, dat ys), some (0, dat st), a5, a6, a7, a8, a9, some (1, dat mx), a11, none]) (tx_var rfl) (fun _ => gt_nm) ⟨_, _, _, .refl _, rfl⟩
    · rintro i x ρ' hx ⟨st, mx, a11, hp, rfl⟩
      dsimp only [List.set]
      have hlen : mx.length ≤ 40 := by
        have := hp.length_eq
        rw [List.length_take] at this
        omega
      apply run_seq
      apply run_setT
      · apply hnext
        walk_at "ev"
      dsimp only [List.set]
      have i0 : 0 ≤ nextV st / 64 % ((mx.length : Int) + 1) := Int.emod_nonneg _ (by omega)
      have i1 : nextV st / 64 % ((mx.length : Int) + 1) < (mx.length : Int) + 1 := Int.emod_lt_of_pos _ (by omega)
      apply run_insT (n := 0) (xs := mx) (x := x) (i := nextV st / 64 % ((mx.length : Int) + 1)) rfl
      · apply TX.ofCur
        walk_at "ev"
      · exact tx_var rfl
      · omega
      · omega
      · omega
      dsimp only [List.set]
      refine ⟨_, _, _, ?_, rfl⟩
      rw [take_at hx]
      generalize (nextV st / 64 % ((mx.length : Int) + 1)).toNat = at_
      refine (List.perm_append_comm.append_right _).trans ?_
      rw [List.append_assoc, List.take_append_drop]
      exact (List.Perm.append_left [x] hp).trans List.perm_append_comm
    · rintro ρ' ⟨st, mx, a11, hp, rfl⟩
      rw [List.take_length] at hp
      refine run_give (i := 10) rfl ?_
      dsimp only [List.set]
      apply run_retT (tx_var (x := mx) rfl)
      refine ⟨rfl, mx, rfl, hsz, hp.nodup_iff.mpr hY.nd, fun a ha => hY.ok a (hp.mem_iff.mp ha), fun f hf g hg e => hp.mem_iff.mpr (hcl f (hp.mem_iff.mp hf) g (hp.mem_iff.mp hg) e), fun b hb => hp.mem_iff.mpr (hY.sub _ (hE.sub _ (List.mem_map.mpr ⟨b, List.mem_range.mpr hb, rfl⟩)))⟩

theorem d_law_arrows {c : Cfg} {mg : Str → Option Value} {base : Heap} (T : Top c mg) (c_law_cell : Callee c mg base "_law_cell" 1 ["script", "k"] (sp_law_cell c)) (c_law_next : Callee c mg base "_law_next" 1 ["step"] (sp_law_next c)) (c_law_closed : Callee c mg base "_law_closed" 1 ["known"] (sp_law_closed c)) (f : Addr) (cdv : Value) (A : Around) (outer : List PySem.Env) (s : Shared) (H : Hp) (E : XK) (hr : Room 1 (A.deeper (PyProof.Rows.envOfC "_law_arrows" (defScope s_law_arrows) s.heap.objs.size f cdv))) :
    PSs (bodyCx c mg base sn_law_arrows "_law_arrows" s_law_arrows f cdv A outer s H E) (defBody s_law_arrows) (t_law_arrows c) := by
  have nd := sc_law_arrows.nd
  exact pss_cons (ps_setLc (i := 3) (own := [("box", 12)]) (g := (gName 12)) (tt := tYes) (wi := (iRng1 (tCons (tCB (lLen c.K) (tCons (tVar 2) tNil)) tNil))) (te := (tTup (tCons (tVar 12) (tCons (tVar 12) (tCons (tTupRg (tRg1 (tOp (rIxL c.K) (tVar 2) (tVar 12)))) tNil))))) rfl nd rfl rfl (sw_true rfl rfl rfl (by decide +kernel)) (pi_range1 (by rfl) T.b_range (pa_cons (pe_callB c_len (by rfl) T.b_len PySem.boot_len (pa_cons (pv 2) pa_nil)) pa_nil)) (blkOk_by (own := [("box", 12)]) (N := sn_law_arrows) (sc := defScope s_law_arrows) (scope := sx_law_arrows_0) (by decide +kernel)) (fun _ _ _ _ _ => pg_name (i := 12) nd rfl (Or.inl rfl)) (fun _ _ _ _ _ => pts_nil) (fun _ _ _ _ _ => pe_tup (pa_cons (pv 12) (pa_cons (pv 12) (pa_cons (pe_tupRg rfl (by rfl) T.b_tuple (prg_1 (by rfl) T.b_range (pe_ix ix_list (pv 2) (pv 12) (fun _ _ => rfl)))) pa_nil)))))
    (pss_cons (ps_set (i := 4) nd rfl (Or.inl rfl) (pe_callD c_law_next rfl rfl rfl (hr.mono (by decide)) (by rfl) (pa_cons (pe_op o_add (pe_op o_mod (pe_op o_mul (pe_callD c_law_cell rfl rfl rfl (hr.mono (by decide)) (by rfl) (pa_cons (pv 0) (pa_cons (pv 1) pa_nil))) (pe_int)) (pe_int)) (pe_int)) pa_nil)))
    (pss_cons (ps_for PassesOwn.never rfl (pi_range1 (by rfl) T.b_range (pa_cons (pe_op o_mod (pe_callD c_law_cell rfl rfl rfl (hr.mono (by decide)) (by rfl) (pa_cons (pv 0) (pa_cons (pe_op o_add (pv 1) (pe_int)) pa_nil))) (pe_int)) pa_nil)) (pg_name (i := 5) nd rfl (Or.inl rfl))
      (pss_cons (ps_set (i := 4) nd rfl (Or.inl rfl) (pe_callD c_law_next rfl rfl rfl (hr.mono (by decide)) (by rfl) (pa_cons (pv 4) pa_nil)))
    (pss_cons (ps_set (i := 6) nd rfl (Or.inl rfl) (pe_op o_mod (pe_op o_div (pv 4) (pe_int)) (pe_callB c_len (by rfl) T.b_len PySem.boot_len (pa_cons (pv 2) pa_nil))))
    (pss_cons (ps_set (i := 4) nd rfl (Or.inl rfl) (pe_callD c_law_next rfl rfl rfl (hr.mono (by decide)) (by rfl) (pa_cons (pv 4) pa_nil)))
    (pss_cons (ps_set (i := 7) nd rfl (Or.inl rfl) (pe_op o_mod (pe_op o_div (pv 4) (pe_int)) (pe_callB c_len (by rfl) T.b_len PySem.boot_len (pa_cons (pv 2) pa_nil))))
    (pss_cons (ps_set (i := 8) nd rfl (Or.inl rfl) (pe_lst (pa_nil)))
    (pss_cons (ps_for PassesOwn.never rfl (pi_range1 (by rfl) T.b_range (pa_cons (pe_ix ix_list (pv 2) (pv 6) (fun _ _ => rfl)) pa_nil)) (pg_name (i := 9) nd rfl (Or.inl rfl))
      (pss_cons (ps_set (i := 4) nd rfl (Or.inl rfl) (pe_callD c_law_next rfl rfl rfl (hr.mono (by decide)) (by rfl) (pa_cons (pv 4) pa_nil)))
    (pss_one (ps_if (pt_cmpR op_eq (pe_ix ix_list (pv 2) (pv 6) (fun _ _ => rfl)) (pe_int) (nomark _))
      (pss_one (ps_expr (pe_bm PySem.F.plainAttrs_list PySem.F.slot_list_insert PySem.F.type_list_insert m_ins (pv 8) (pa_cons (pe_op o_mod (pe_op o_div (pv 4) (pe_int)) (pe_op o_add (pv 9) (pe_int))) (pa_cons (pv 9) pa_nil)))))
      (pss_one (ps_expr (pe_bm PySem.F.plainAttrs_list PySem.F.slot_list_append PySem.F.type_list_append mt_append (pv 8) (pa_cons (pe_op o_mod (pe_op o_div (pv 4) (pe_int)) (pe_callB (c_max2 rfl) (by rfl) T.b_max (by decide +kernel) (pa_cons (pe_int) (pa_cons (pe_ix ix_list (pv 2) (pv 7) (fun _ _ => rfl)) pa_nil)))) pa_nil))))))))
    (pss_one (ps_if (PW.pt (pw_or (pt_cmpR op_eq (pe_ix ix_list (pv 2) (pv 6) (fun _ _ => rfl)) (pe_int) (nomark _)) (pw_or1 (pt_cmpR o_gt (pe_ix ix_list (pv 2) (pv 7) (fun _ _ => rfl)) (pe_int) (nomark _)))))
      (pss_one (ps_if (pt_cmpR (op_notInD hr.units1) (pe_tup (pa_cons (pv 6) (pa_cons (pv 7) (pa_cons (pe_tupleOf (by rfl) T.b_tuple (pv 8)) pa_nil)))) (pv 3) (by rfl))
      (pss_one (ps_expr (pe_bm PySem.F.plainAttrs_list PySem.F.slot_list_append PySem.F.type_list_append mt_append (pv 3) (pa_cons (pe_tup (pa_cons (pv 6) (pa_cons (pv 7) (pa_cons (pe_tupleOf (by rfl) T.b_tuple (pv 8)) pa_nil)))) pa_nil))))
      (pss_nil)))
      (pss_nil))))))))))
    (pss_cons (ps_set (i := 3) nd rfl (Or.inl rfl) (pe_callD c_law_closed rfl rfl rfl (hr.mono (by decide)) (by rfl) (pa_cons (pv 3) pa_nil)))
    (pss_cons (ps_set (i := 10) nd rfl (Or.inl rfl) (pe_lst (pa_nil)))
    (pss_cons (ps_for PassesOwn.never rfl (pi_list (pv 3)) (pg_name (i := 11) nd rfl (Or.inl rfl))
      (pss_cons (ps_set (i := 4) nd rfl (Or.inl rfl) (pe_callD c_law_next rfl rfl rfl (hr.mono (by decide)) (by rfl) (pa_cons (pv 4) pa_nil)))
    (pss_one (ps_expr (pe_bm PySem.F.plainAttrs_list PySem.F.slot_list_insert PySem.F.type_list_insert m_ins (pv 10) (pa_cons (pe_op o_mod (pe_op o_div (pv 4) (pe_int)) (pe_op o_add (pe_callB c_len (by rfl) T.b_len PySem.boot_len (pa_cons (pv 10) pa_nil)) (pe_int))) (pa_cons (pv 11) pa_nil)))))))
    (pss_one (ps_ret (pv 10))))))))
theorem k_law_arrows {c : Cfg} {mg : Str → Option Value} {base : Heap} (T : Top c mg) (c_law_cell : Callee c mg base "_law_cell" 1 ["script", "k"] (sp_law_cell c)) (c_law_next : Callee c mg base "_law_next" 1 ["step"] (sp_law_next c)) (c_law_closed : Callee c mg base "_law_closed" 1 ["known"] (sp_law_closed c)) : Callee c mg base "_law_arrows" 2 ["script", "k", "sizes"] (sp_law_arrows c) :=
  callee_of T.d_law_arrows sc_law_arrows (len_law_arrows c) (fun _ _ _ _ _ _ us hl => match us, hl with | [_, _, _], _ => rfl) (fun f cdv A outer s H E hr => d_law_arrows T c_law_cell c_law_next c_law_closed f cdv A outer s H E hr) (run_law_arrows c)
def sp_law_parts (c : Cfg) : Sp := spG c (ι := List Int × Int) (fun z => [.scr z.1, dat z.2]) (fun z => 0 ≤ z.2) 0 (fun z d => ∃ sz known, d = pd (hallOf sz known) [dat known, dat sz] ∧ GoodA sz known)
theorem len_law_parts (c : Cfg) : ∀ vs H Q E, sp_law_parts c vs H Q E → vs.length = 2 := spG_len fun _ => rfl

def sn_law_parts : List Str := ["script", "k", "sizes", "known", "place", "at", "table", "first", "row", "second", "made", "rests", "x", "box", "arrow"]
def sx_law_parts_0 : Scope := { kind := .function, names := [(".0", .local), ("x", .local), ("second", .free)], isGenerator := false, isCoroutine := false, more := [] }
def sxr_law_parts_0 : Scope := { kind := .function, names := [(".0", .local), ("x", .local), ("second", .cell)], isGenerator := false, isCoroutine := false, more := [] }
def sx_law_parts_1 : Scope := { kind := .function, names := [(".0", .local), ("box", .local), ("tuple", .globalImplicit), ("range", .globalImplicit), ("place", .free), ("sizes", .free)], isGenerator := false, isCoroutine := false, more := [] }
def sxr_law_parts_1 : Scope := { kind := .function, names := [(".0", .local), ("box", .local), ("tuple", .globalImplicit), ("range", .globalImplicit), ("place", .cell), ("sizes", .cell)], isGenerator := false, isCoroutine := false, more := [] }
def sx_law_parts_2 : Scope := { kind := .function, names := [(".0", .local), ("arrow", .local)], isGenerator := false, isCoroutine := false, more := [] }
theorem sc_law_parts : FnScope sn_law_parts ["script", "k"] (defScope s_law_parts) := ⟨rfl, rfl, rfl, by decide +kernel, rfl, by decide +kernel, by decide +kernel⟩
def t_law_parts (c : Cfg) : TS :=
  (tSeq (tAsg (tCall (sp_law_sizes c) [] E0 (tCons (tVar 0) (tCons (tVar 1) tNil))) (gName 2))
    (tSeq (tAsg (tCall (sp_law_arrows c) [] E0 (tCons (tVar 0) (tCons (tOp zAdd (tVar 1) (tC (.int 1))) (tCons (tVar 2) tNil)))) (gName 3))
    (tSeq (tAsg (tNNew c) (gName 4))
    (tSeq (tFor (iRng1 (tCons (tCB (lLen c.K) (tCons (tVar 3) tNil)) tNil)) (gName 5)
      (sNPut c (tVar 4) (tOp (rIxL c.K) (tVar 3) (tVar 5)) (tVar 5)))
    (tSeq (tAsg (tLst tNil) (gName 6))
    (tSeq (tFor (iList c.K (tVar 3)) (gName 7)
      (tSeq (tAsg (tLst tNil) (gName 8))
    (tSeq (tFor (iList c.K (tVar 3)) (gName 9)
      (tSeq (tAsg (tUn zNeg (tC (.int 1))) (gName 10))
    (tSeq (tIfS (tTest (tOp rEq (tOp (rIxT c.K) (tVar 7) (tC (.int 1))) (tOp (rIxT c.K) (tVar 9) (tC (.int 0)))))
      (tAsg (tNGet c (tVar 4) (tTup (tCons (tOp (rIxT c.K) (tVar 7) (tC (.int 0))) (tCons (tOp (rIxT c.K) (tVar 9) (tC (.int 1))) (tCons (tThen (tLc (iTup c.K (tOp (rIxT c.K) (tVar 7) (tC (.int 2)))) (gName 12) tYes (tOp (rIxT c.K) (tOp (rIxT c.K) (tVar 9) (tC (.int 2))) (tVar 12)) [12]) (kTup c.K)) tNil))))) (gName 10))
      tNext)
    (tDrop (tBM c.K "list" rAppend (tVar 8) (tCons (tVar 10) tNil))))))
    (tDrop (tBM c.K "list" rAppend (tVar 6) (tCons (tVar 8) tNil))))))
    (tSeq (tAsg (tLc (iRng1 (tCons (tCB (lLen c.K) (tCons (tVar 2) tNil)) tNil)) (gName 13) tYes (tNGet c (tVar 4) (tTup (tCons (tVar 13) (tCons (tVar 13) (tCons (tTupRg (tRg1 (tOp (rIxL c.K) (tVar 2) (tVar 13)))) tNil))))) [13]) (gName 11))
    (tRet (tTup (tCons (tLc (iList c.K (tVar 3)) (gName 14) tYes (tTup (tCons (tOp (rIxT c.K) (tVar 14) (tC (.int 0))) (tCons (tOp (rIxT c.K) (tVar 14) (tC (.int 1))) tNil))) [14]) (tCons (tVar 11) (tCons (tVar 6) (tCons (tVar 3) (tCons (tVar 2) tNil))))))))))))))

theorem run_law_parts (c : Cfg) : ∀ vs H Q E, sp_law_parts c vs H Q E → t_law_parts c { nx := fun _ H' => Q .non H', rt := Q } (L2.start sn_law_parts vs) H := by
  refine fn_runR (ρ0 := fun x => [some (0, .scr x.1), some (0, dat x.2), none, none, none, none, none, none, none, none, none, none, none, none, none]) (fun _ => rfl) (fun _ => Nat.le_of_ble_eq_true rfl) ?_
  rintro ⟨ns, k⟩ hk
  dsimp only at hk ⊢
  apply run_seq
  apply run_setT (x := sizesOf (cellV ns k))
  · exact tx_call (ns, k) (ea_cons (ex_var rfl) (tea_cons (tx_var rfl) tea_nil)) hk
  have hsz := sizesOf_mem (cellV ns k)
  dsimp only [List.set]
  generalize sizesOf (cellV ns k) = sz at hsz ⊢
  obtain ⟨s1, s2, s3⟩ := all_small sz hsz
  apply run_seq
  apply run_setR (ns, k + 1, sz)
  · exact ea_cons (ex_var rfl) (tea_cons (tx_add (tx_var rfl) tx_int) (tea_cons (tx_var rfl) tea_nil))
  · exact ⟨by show 0 ≤ k + 1; omega, hsz⟩
  rintro d ⟨known, rfl, G⟩
  dsimp only at G
  have hn := ok_count G.sm G.nd G.ok
  have kat : ∀ i : Nat, i < known.length → at' known (i : Int) ∈ known := fun i hi => at_mem (by omega) (by omega)
  dsimp only [List.set]
  apply run_seq
  refine run_set ex_nnew ?_
  dsimp only [List.set]
  apply run_seq
  apply run_forRT (m := known.length) (fun n ρ' => ∃ (a5 : Option (Nat × D)), ρ' = [some (0, .scr ns), some (0, dat k), some (0, dat sz), some (0, dat known), some (1, .dic (placeOf known n)), a5, none, none, none, none, none, none, none, none, none])
  · walk_at "ev"
  · rfl
  · omega
  · exact ⟨_, rfl⟩
  · rintro i ρ' hi ⟨a5, rfl⟩
    dsimp only [List.set]
    apply run_nputI (x := at' known (i : Int)) (i := (i : Int)) rfl
    · walk_at "ev"
    · exact ktop_arr _
    · walk_at "ev"
    · rw [place_len]; omega
    · rw [place_put G.nd hi]
      exact ⟨_, rfl⟩
  rintro ρ' ⟨a5, rfl⟩
  refine run_give (i := 4) rfl ?_
  dsimp only [List.set]
  apply run_seq
  apply run_setO 1 ([] : TableT)
  · exact nx_nil
  dsimp only [List.set]
  apply run_seq
  apply run_forLT known (fun n ρ' => ∃ (a7 a8 a9 a10 : Option (Nat × D)), ρ' = [some (0, .scr ns), some (0, dat k), some (0, dat sz), some (0, dat known), some (0, .dic (placeOf known known.length)), a5, some (1, dat ((known.take n).map fun f => known.map fun g => entry known f g)), a7, a8, a9, a10, none, none, none, none]) (tx_var rfl) (fun _ => gt_nm) ⟨_, _, _, _, rfl⟩
  · rintro i f ρ' hf ⟨a7, a8, a9, a10, rfl⟩
    have hfm := List.mem_of_getElem? hf
    have hfo := G.ok f hfm
    dsimp only [List.set]
    apply run_seq
    apply run_setO 1 ([] : List Int)
    · exact nx_nil
    dsimp only [List.set]
    apply run_seq
    apply run_forLT known (fun n ρ' => ∃ (a9 a10 : Option (Nat × D)), ρ' = [some (0, .scr ns), some (0, dat k), some (0, dat sz), some (0, dat known), some (0, .dic (placeOf known known.length)), a5, some (1, dat ((known.take i).map fun f => known.map fun g => entry known f g)), some (0, dat f), some (1, dat ((known.take n).map fun g => entry known f g)), a9, a10, none, none, none, none]) (tx_var rfl) (fun _ => gt_nm) ⟨_, _, rfl⟩
    · rintro j g ρ' hg ⟨a9, a10, rfl⟩
      have hgm := List.mem_of_getElem? hg
      have hgo := G.ok g hgm
      dsimp only [List.set]
      have happ : ∀ v : Int, entry known f g = v → Run c (tDrop (tBM c.K "list" rAppend (tVar 8) (tCons (tVar 10) tNil))) [some (0, .scr ns), some (0, dat k), some (0, dat sz), some (0, dat known), some (0, .dic (placeOf known known.length)), a5, some (1, dat ((known.take i).map fun f => known.map fun g => entry known f g)), some (0, dat f), some (1, dat ((known.take j).map fun g => entry known f g)), some (0, dat g), some (0, dat v), none, none, none, none] { nx := fun ρ' => ∃ (a9 a10 : Option (Nat × D)), ρ' = [some (0, .scr ns), some (0, dat k), some (0, dat sz), some (0, dat known), some (0, .dic (placeOf known known.length)), a5, some (1, dat ((known.take i).map fun f => known.map fun g => entry known f g)), some (0, dat f), some (1, dat ((known.take (j + 1)).map fun g => entry known f g)), a9, a10, none, none, none, none], rt := fun m d => m = 0 ∧ ∃ sz known, d = pd (hallOf sz known) [dat known, dat sz] ∧ GoodA sz known, bk := fun _ => False, ct := fun _ => False } := by
        intro v hv
        apply run_appT (n := 0) (xs := (known.take j).map fun g => entry known f g) (x := v) rfl
        · exact tx_var rfl
        · rw [List.length_map, List.length_take]; omega
        · dsimp only [List.set]
          rw [take_at hg, List.map_append, List.map_singleton, hv]
          exact ⟨_, _, rfl⟩
      apply run_seq
      apply run_setT
      · walk_at "ev"
      dsimp only [List.set]
      apply run_seq
      walk_at "if"
      · intro q
        have q' : f.b = g.a := of_decide_eq_true q
        apply run_setT (x := entry known f g)
        · apply tx_nget (x := comp f g) rfl
          · refine NX.give 1 ?_
            apply nx_tup3
            · walk_at "ev"
            · walk_at "ev"
            · apply NX.tx
              apply nx_tupOf
              refine NX.give 1 ?_
              apply nx_lcTm f.c (fun x => at' g.c.l x)
              · walk_at "ev"
              · exact fun _ => gt_nm
              · intro x hx
                obtain ⟨x0, x1⟩ := hfo.low x hx
                apply TX.nx
                apply tx_ixT
                · walk_at "ev"
                · walk_at "ev"
                · exact x0
                · rw [hgo.len, ← q']; exact x1
              · have := hfo.len
                have := s1 _ (at_mem hfo.a0 hfo.a1)
                omega
              · decide
          · exact ktop_arr _
          · unfold entry
            rw [if_pos q']
            exact place_get G.nd (G.cl f hfm g hgm q')
        · dsimp only [List.set]
          exact run_mono (happ _ rfl) (fun _ z => z) (fun _ _ z => z) (fun _ z => z.elim) fun _ z => z.elim
      · intro q
        have q' : f.b ≠ g.a := of_decide_eq_false q
        exact run_next (run_mono (happ _ (entry_no q')) (fun _ z => z) (fun _ _ z => z) (fun _ z => z.elim) fun _ z => z.elim)
    rintro ρ' ⟨a9, a10, rfl⟩
    rw [List.take_length]
    refine run_give (i := 8) rfl ?_
    dsimp only [List.set]
    apply run_appT (n := 0) (xs := (known.take i).map fun f => known.map fun g => entry known f g) (x := known.map fun g => entry known f g) rfl
    · exact tx_var rfl
    · rw [List.length_map, List.length_take]; omega
    · dsimp only [List.set]
      rw [take_at hf, List.map_append, List.map_singleton]
      exact ⟨_, _, _, _, rfl⟩
  rintro ρ' ⟨a7, a8, a9, a10, rfl⟩
  rw [List.take_length]
  refine run_give (i := 6) rfl ?_
  dsimp only [List.set]
  apply run_seq
  apply run_setO 1 (restsOf sz known)
  · unfold restsOf
    apply nx_lcRm (m := sz.length) (fun b => (idx known (idA sz b) : Int))
    · walk_at "ev"
    · rfl
    · exact fun _ => gt_ni
    · intro b hb
      have sb := s1 _ (at_mem (xs := sz) (i := (b : Int)) (by omega) (by omega))
      apply TX.nx
      apply tx_nget (x := idA sz b) rfl
      · refine NX.give 1 ?_
        apply nx_tup3
        · walk_at "ev"
        · walk_at "ev"
        · refine NX.give 1 (nx_tupRg (i := at' sz (b : Int)) ?_ ?_ ?_)
          · walk_at "ev"
          · omega
          · omega
      · exact ktop_arr _
      · exact place_get G.nd (G.id b hb)
    · omega
    · decide
  dsimp only [List.set]
  refine run_give (i := 11) rfl ?_
  dsimp only [List.set]
  apply run_retA (mkParts sz known)
  · refine NX.give 1 ?_
    apply nx_tup5
    · refine NX.give 2 ?_
      apply nx_lcLm known (fun a => (a.a, a.b))
      · walk_at "ev"
      · exact fun _ => gt_nm
      · intro a ha
        apply nx_tup2
        · walk_at "ev"
        · walk_at "ev"
      · omega
      · decide
    · exact tx_var rfl
    · exact tx_var rfl
    · exact tx_var rfl
    · exact tx_var rfl
  · exact ⟨rfl, _, _, rfl, G⟩

theorem d_law_parts {c : Cfg} {mg : Str → Option Value} {base : Heap} (T : Top c mg) (c_law_sizes : Callee c mg base "_law_sizes" 2 ["script", "k"] (sp_law_sizes c)) (c_law_arrows : Callee c mg base "_law_arrows" 2 ["script", "k", "sizes"] (sp_law_arrows c)) (f : Addr) (cdv : Value) (A : Around) (outer : List PySem.Env) (s : Shared) (H : Hp) (E : XK) (hr : Room 2 (A.deeper (PyProof.Rows.envOfC "_law_parts" (defScope s_law_parts) s.heap.objs.size f cdv))) :
    PSs (bodyCx c mg base sn_law_parts "_law_parts" s_law_parts f cdv A outer s H E) (defBody s_law_parts) (t_law_parts c) := by
  have nd := sc_law_parts.nd
  exact pss_cons (ps_set (i := 2) nd rfl (Or.inr rfl) (pe_callD c_law_sizes rfl rfl rfl (hr.mono (by decide)) (by rfl) (pa_cons (pv 0) (pa_cons (pv 1) pa_nil))))
    (pss_cons (ps_set (i := 3) nd rfl (Or.inl rfl) (pe_callD c_law_arrows rfl rfl rfl (hr.mono (by decide)) (by rfl) (pa_cons (pv 0) (pa_cons (pe_op o_add (pv 1) (pe_int)) (pa_cons (pv 2) pa_nil)))))
    (pss_cons (ps_set (i := 4) nd rfl (Or.inr rfl) (pe_ndnew))
    (pss_cons (ps_for PassesOwn.never rfl (pi_range1 (by rfl) T.b_range (pa_cons (pe_callB c_len (by rfl) T.b_len PySem.boot_len (pa_cons (pv 3) pa_nil)) pa_nil)) (pg_name (i := 5) nd rfl (Or.inl rfl))
      (pss_one (ps_nput hr.units (pv 4) (pe_ix ix_list (pv 3) (pv 5) (fun _ _ => rfl)) (pv 5) rfl)))
    (pss_cons (ps_set (i := 6) nd rfl (Or.inl rfl) (pe_lst (pa_nil)))
    (pss_cons (ps_for PassesOwn.never rfl (pi_list (pv 3)) (pg_name (i := 7) nd rfl (Or.inl rfl))
      (pss_cons (ps_set (i := 8) nd rfl (Or.inl rfl) (pe_lst (pa_nil)))
    (pss_cons (ps_for PassesOwn.never rfl (pi_list (pv 3)) (pg_name (i := 9) nd rfl (Or.inr rfl))
      (pss_cons (ps_set (i := 10) nd rfl (Or.inl rfl) (pe_un u_neg (pe_int)))
    (pss_cons (ps_if (pt_cmpR op_eq (pe_ix ix_tup (pv 7) (pe_int) (fun _ _ => rfl)) (pe_ix ix_tup (pv 9) (pe_int) (fun _ _ => rfl)) (nomark _))
      (pss_one (ps_set (i := 10) nd rfl (Or.inl rfl) (pe_ngetD (hr.units) (pv 4) (pe_tup (pa_cons (pe_ix ix_tup (pv 7) (pe_int) (fun _ _ => rfl)) (pa_cons (pe_ix ix_tup (pv 9) (pe_int) (fun _ _ => rfl)) (pa_cons (pe_tupleOf (by rfl) T.b_tuple (pe_lc (own := [("x", 12)]) (g := (gName 12)) (tt := tYes) (wi := (iTup c.K (tOp (rIxT c.K) (tVar 7) (tC (.int 2))))) (te := (tOp (rIxT c.K) (tOp (rIxT c.K) (tVar 9) (tC (.int 2))) (tVar 12))) rfl nd (pi_tup (pe_ix ix_tup (pv 7) (pe_int) (fun _ _ => rfl))) (blkOk_by (own := [("x", 12)]) (N := sn_law_parts) (sc := defScope s_law_parts) (scope := sx_law_parts_0) (by decide +kernel)) (fun _ _ _ _ _ => pg_name (i := 12) nd rfl (Or.inl rfl)) (fun _ _ _ _ _ => pts_nil) (fun _ _ _ _ _ => pe_ix ix_tup (pe_ix ix_tup (pv 9) (pe_int) (fun _ _ => rfl)) (pv 12) (fun _ _ => rfl)))) pa_nil)))))))
      (pss_nil))
    (pss_one (ps_expr (pe_bm PySem.F.plainAttrs_list PySem.F.slot_list_append PySem.F.type_list_append mt_append (pv 8) (pa_cons (pv 10) pa_nil)))))))
    (pss_one (ps_expr (pe_bm PySem.F.plainAttrs_list PySem.F.slot_list_append PySem.F.type_list_append mt_append (pv 6) (pa_cons (pv 8) pa_nil)))))))
    (pss_cons (ps_setLc (i := 11) (own := [("box", 13)]) (g := (gName 13)) (tt := tYes) (wi := (iRng1 (tCons (tCB (lLen c.K) (tCons (tVar 2) tNil)) tNil))) (te := (tNGet c (tVar 4) (tTup (tCons (tVar 13) (tCons (tVar 13) (tCons (tTupRg (tRg1 (tOp (rIxL c.K) (tVar 2) (tVar 13)))) tNil)))))) rfl nd rfl rfl (sw_true rfl rfl rfl (by decide +kernel)) (pi_range1 (by rfl) T.b_range (pa_cons (pe_callB c_len (by rfl) T.b_len PySem.boot_len (pa_cons (pv 2) pa_nil)) pa_nil)) (blkOk_by (own := [("box", 13)]) (N := sn_law_parts) (sc := defScope s_law_parts) (scope := sx_law_parts_1) (by decide +kernel)) (fun _ _ _ _ _ => pg_name (i := 13) nd rfl (Or.inl rfl)) (fun _ _ _ _ _ => pts_nil) (fun _ _ _ _ _ => pe_ngetD (hr.units) (pv 4) (pe_tup (pa_cons (pv 13) (pa_cons (pv 13) (pa_cons (pe_tupRg rfl (by rfl) T.b_tuple (prg_1 (by rfl) T.b_range (pe_ix ix_list (pv 2) (pv 13) (fun _ _ => rfl)))) pa_nil))))))
    (pss_one (ps_ret (pe_tup (pa_cons (pe_lc (own := [("arrow", 14)]) (g := (gName 14)) (tt := tYes) (wi := (iList c.K (tVar 3))) (te := (tTup (tCons (tOp (rIxT c.K) (tVar 14) (tC (.int 0))) (tCons (tOp (rIxT c.K) (tVar 14) (tC (.int 1))) tNil)))) rfl nd (pi_list (pv 3)) (blkOk_by (own := [("arrow", 14)]) (N := sn_law_parts) (sc := defScope s_law_parts) (scope := sx_law_parts_2) (by decide +kernel)) (fun _ _ _ _ _ => pg_name (i := 14) nd rfl (Or.inl rfl)) (fun _ _ _ _ _ => pts_nil) (fun _ _ _ _ _ => pe_tup (pa_cons (pe_ix ix_tup (pv 14) (pe_int) (fun _ _ => rfl)) (pa_cons (pe_ix ix_tup (pv 14) (pe_int) (fun _ _ => rfl)) pa_nil)))) (pa_cons (pv 11) (pa_cons (pv 6) (pa_cons (pv 3) (pa_cons (pv 2) pa_nil))))))))))))))
theorem k_law_parts {c : Cfg} {mg : Str → Option Value} {base : Heap} (T : Top c mg) (c_law_sizes : Callee c mg base "_law_sizes" 2 ["script", "k"] (sp_law_sizes c)) (c_law_arrows : Callee c mg base "_law_arrows" 2 ["script", "k", "sizes"] (sp_law_arrows c)) : Callee c mg base "_law_parts" 3 ["script", "k"] (sp_law_parts c) :=
  callee_of T.d_law_parts sc_law_parts (len_law_parts c) (fun _ _ _ _ _ _ us hl => match us, hl with | [_, _], _ => rfl) (fun f cdv A outer s H E hr => d_law_parts T c_law_sizes c_law_arrows f cdv A outer s H E hr) (run_law_parts c)
def sp_law_copy (c : Cfg) : Sp := spF c (ι := List (List Int)) (fun x => [dat x]) (fun x => x.length ≤ 64000) 2 (fun x => Dat.d x)
theorem len_law_copy (c : Cfg) : ∀ vs H Q E, sp_law_copy c vs H Q E → vs.length = 1 := spF_len fun _ => rfl

def sn_law_copy : List Str := ["rows", "row"]
def sx_law_copy_0 : Scope := { kind := .function, names := [(".0", .local), ("row", .local), ("list", .globalImplicit)], isGenerator := false, isCoroutine := false, more := [] }
theorem sc_law_copy : FnScope sn_law_copy ["rows"] (defScope s_law_copy) := ⟨rfl, rfl, rfl, by decide +kernel, rfl, by decide +kernel, by decide +kernel⟩
def t_law_copy (c : Cfg) : TS :=
  (tRet (tLc (iList c.K (tVar 0)) (gName 1) tYes (tCB (lList c.K) (tCons (tVar 1) tNil)) [1]))

theorem run_law_copy (c : Cfg) : ∀ vs H Q E, sp_law_copy c vs H Q E → t_law_copy c { nx := fun _ H' => Q .non H', rt := Q } (L2.start sn_law_copy vs) H := by
  refine fn_run (ρ0 := fun x => [some (0, dat x), none]) (fun _ => rfl) (fun _ => Nat.le_of_ble_eq_true rfl) ?_
  rintro xs hn
  have h : NX c (tLc (iList c.K (tVar 0)) (gName 1) tYes (tCB (lList c.K) (tCons (tVar 1) tNil)) [1]) [some (0, dat xs), none] 2 (xs.map fun r => r) := by
    apply nx_lcLm xs (fun r => r)
    · exact tx_var rfl
    · exact fun _ => gt_nm
    · intro r hr
      exact nx_list (tx_var rfl)
    · omega
    · decide
  rw [List.map_id'] at h
  exact run_retO 2 xs h ⟨rfl, rfl⟩

theorem d_law_copy {c : Cfg} {mg : Str → Option Value} {base : Heap} (T : Top c mg) (f : Addr) (cdv : Value) (A : Around) (outer : List PySem.Env) (s : Shared) (H : Hp) (E : XK) (hr : Room 0 (A.deeper (PyProof.Rows.envOfC "_law_copy" (defScope s_law_copy) s.heap.objs.size f cdv))) :
    PSs (bodyCx c mg base sn_law_copy "_law_copy" s_law_copy f cdv A outer s H E) (defBody s_law_copy) (t_law_copy c) := by
  have nd := sc_law_copy.nd
  exact pss_one (ps_ret (pe_lc (own := [("row", 1)]) (g := (gName 1)) (tt := tYes) (wi := (iList c.K (tVar 0))) (te := (tCB (lList c.K) (tCons (tVar 1) tNil))) rfl nd (pi_list (pv 0)) (blkOk_by (own := [("row", 1)]) (N := sn_law_copy) (sc := defScope s_law_copy) (scope := sx_law_copy_0) (by decide +kernel)) (fun _ _ _ _ _ => pg_name (i := 1) nd rfl (Or.inl rfl)) (fun _ _ _ _ _ => pts_nil) (fun _ _ _ _ _ => pe_callTy c_list (by rfl) T.b_list (by decide +kernel) (pa_cons (pv 1) pa_nil))))
theorem k_law_copy {c : Cfg} {mg : Str → Option Value} {base : Heap} (T : Top c mg) : Callee c mg base "_law_copy" 1 ["rows"] (sp_law_copy c) :=
  callee_of T.d_law_copy sc_law_copy (len_law_copy c) (fun _ _ _ _ _ _ us hl => match us, hl with | [_], _ => rfl) (fun f cdv A outer s H E hr => d_law_copy T f cdv A outer s H E hr) (run_law_copy c)
def sp_law_hall (c : Cfg) : Sp := spF c (ι := HallT × List D) (fun p => [pd p.1 p.2]) (fun p => HallOk p.1) 0 (fun p => hd p.1)
theorem len_law_hall (c : Cfg) : ∀ vs H Q E, sp_law_hall c vs H Q E → vs.length = 1 := spF_len fun _ => rfl

def sn_law_hall : List Str := ["parts", "row"]
def sx_law_hall_0 : Scope := { kind := .function, names := [(".0", .local), ("row", .local), ("list", .globalImplicit)], isGenerator := false, isCoroutine := false, more := [] }
theorem sc_law_hall : FnScope sn_law_hall ["parts"] (defScope s_law_hall) := ⟨rfl, rfl, rfl, by decide +kernel, rfl, by decide +kernel, by decide +kernel⟩
def t_law_hall (c : Cfg) : TS :=
  (tRet (tMake c.C (sp_Hall_init c) [] E0 (tCons (tCB (lList c.K) (tCons (tOp (rIxT c.K) (tVar 0) (tC (.int 0))) tNil)) (tCons (tCB (lList c.K) (tCons (tOp (rIxT c.K) (tVar 0) (tC (.int 1))) tNil)) (tCons (tLc (iList c.K (tOp (rIxT c.K) (tVar 0) (tC (.int 2)))) (gName 1) tYes (tCB (lList c.K) (tCons (tVar 1) tNil)) [1]) tNil)))))

theorem run_law_hall (c : Cfg) : ∀ vs H Q E, sp_law_hall c vs H Q E → t_law_hall c { nx := fun _ H' => Q .non H', rt := Q } (L2.start sn_law_hall vs) H := by
  refine fn_run (ρ0 := fun x => [some (0, pd x.1 x.2), none]) (fun _ => rfl) (fun _ => Nat.le_of_ble_eq_true rfl) ?_
  rintro ⟨h, r⟩ hp
  dsimp only at hp ⊢
  have hs := hall_size hp
  have hl := tr_len (hall_table hp)
  refine run_retH (h := h) (ex_make (h.e, h.r, h.t) (ea_cons ?_ (ea_cons ?_ (ea_cons ?_ ea_nil))) hp) ⟨rfl, rfl⟩
  · exact NX.tx (nx_list (xs := h.e) (tx_q0 (px_var rfl)))
  · exact NX.tx (nx_list (xs := h.r) (tx_q1 (px_var rfl)))
  · have q : NX c (tLc (iList c.K (tOp (rIxT c.K) (tVar 0) (tC (.int 2)))) (gName 1) tYes (tCB (lList c.K) (tCons (tVar 1) tNil)) [1]) [some (0, pd h r), none] 2 (h.t.map fun r => r) := by
      apply nx_lcLm h.t (fun r => r)
      · exact tx_q2 (px_var rfl)
      · exact fun _ => gt_nm
      · intro r hr
        exact nx_list (tx_var rfl)
      · omega
      · decide
    rw [List.map_id'] at q
    exact NX.give 2 q

theorem d_law_hall {c : Cfg} {mg : Str → Option Value} {base : Heap} (T : Top c mg) (c_Hall_init : Maker c mg base 4 (sp_Hall_init c)) (f : Addr) (cdv : Value) (A : Around) (outer : List PySem.Env) (s : Shared) (H : Hp) (E : XK) (hr : Room 5 (A.deeper (PyProof.Rows.envOfC "_law_hall" (defScope s_law_hall) s.heap.objs.size f cdv))) :
    PSs (bodyCx c mg base sn_law_hall "_law_hall" s_law_hall f cdv A outer s H E) (defBody s_law_hall) (t_law_hall c) := by
  have nd := sc_law_hall.nd
  exact pss_one (ps_ret (pe_makeH c_Hall_init rfl rfl rfl (hr.mono (by decide)) (by rfl) (pa_cons (pe_callTy c_list (by rfl) T.b_list (by decide +kernel) (pa_cons (pe_ix ix_tup (pv 0) (pe_int) (fun _ _ => rfl)) pa_nil)) (pa_cons (pe_callTy c_list (by rfl) T.b_list (by decide +kernel) (pa_cons (pe_ix ix_tup (pv 0) (pe_int) (fun _ _ => rfl)) pa_nil)) (pa_cons (pe_lc (own := [("row", 1)]) (g := (gName 1)) (tt := tYes) (wi := (iList c.K (tOp (rIxT c.K) (tVar 0) (tC (.int 2))))) (te := (tCB (lList c.K) (tCons (tVar 1) tNil))) rfl nd (pi_list (pe_ix ix_tup (pv 0) (pe_int) (fun _ _ => rfl))) (blkOk_by (own := [("row", 1)]) (N := sn_law_hall) (sc := defScope s_law_hall) (scope := sx_law_hall_0) (by decide +kernel)) (fun _ _ _ _ _ => pg_name (i := 1) nd rfl (Or.inl rfl)) (fun _ _ _ _ _ => pts_nil) (fun _ _ _ _ _ => pe_callTy c_list (by rfl) T.b_list (by decide +kernel) (pa_cons (pv 1) pa_nil))) pa_nil)))))
theorem k_law_hall {c : Cfg} {mg : Str → Option Value} {base : Heap} (T : Top c mg) (c_Hall_init : Maker c mg base 4 (sp_Hall_init c)) : Callee c mg base "_law_hall" 6 ["parts"] (sp_law_hall c) :=
  callee_of T.d_law_hall sc_law_hall (len_law_hall c) (fun _ _ _ _ _ _ us hl => match us, hl with | [_], _ => rfl) (fun f cdv A outer s H E hr => d_law_hall T c_Hall_init f cdv A outer s H E hr) (run_law_hall c)
def sp_law_between (c : Cfg) : Sp := spF c (ι := HallT × Int × Int × List D) (fun x => [pd x.1 x.2.2.2, dat x.2.1, dat x.2.2.1]) (fun x => x.1.e.length ≤ 1000) 1 (fun x => Dat.d (betw x.1.e x.2.1 x.2.2.1))
theorem len_law_between (c : Cfg) : ∀ vs H Q E, sp_law_between c vs H Q E → vs.length = 3 := spF_len fun _ => rfl

def sn_law_between : List Str := ["parts", "box", "other", "arrow"]
def sx_law_between_0 : Scope := { kind := .function, names := [(".0", .local), ("arrow", .local), ("box", .free), ("other", .free), ("parts", .free)], isGenerator := false, isCoroutine := false, more := [] }
def sxr_law_between_0 : Scope := { kind := .function, names := [(".0", .local), ("arrow", .local), ("box", .cell), ("other", .cell), ("parts", .cell)], isGenerator := false, isCoroutine := false, more := [] }
theorem sc_law_between : FnScope sn_law_between ["parts", "box", "other"] (defScope s_law_between) := ⟨rfl, rfl, rfl, by decide +kernel, rfl, by decide +kernel, by decide +kernel⟩
def t_law_between (c : Cfg) : TS :=
  (tRet (tLc (iRng1 (tCons (tCB (lLen c.K) (tCons (tOp (rIxT c.K) (tVar 0) (tC (.int 0))) tNil)) tNil)) (gName 3) (tTest (tOp (rEqD c.K) (tOp (rIxL c.K) (tOp (rIxT c.K) (tVar 0) (tC (.int 0))) (tVar 3)) (tTup (tCons (tVar 1) (tCons (tVar 2) tNil))))) (tVar 3) [3]))

theorem run_law_between (c : Cfg) : ∀ vs H Q E, sp_law_between c vs H Q E → t_law_between c { nx := fun _ H' => Q .non H', rt := Q } (L2.start sn_law_between vs) H := by
  refine fn_run (ρ0 := fun x => [some (0, pd x.1 x.2.2.2), some (0, dat x.2.1), some (0, dat x.2.2.1), none]) (fun _ => rfl) (fun _ => Nat.le_of_ble_eq_true rfl) ?_
  rintro ⟨h, b, o, r⟩ hn
  dsimp only at hn ⊢
  apply run_retO 1 (betw h.e b o)
  · unfold betw
    apply nx_lcR (m := h.e.length) (fun (a : Nat) => eqT (at' h.e (a : Int)) (b, o)) (fun (a : Nat) => (a : Int))
    · walk_at "ev"
    · rfl
    · exact fun _ => gt_ni
    · intro a ha
      apply ett
      walk_at "ev"
    · intro a ha _
      apply TX.nx
      walk_at "ev"
    · omega
    · decide
  · exact ⟨rfl, rfl⟩

theorem d_law_between {c : Cfg} {mg : Str → Option Value} {base : Heap} (T : Top c mg) (f : Addr) (cdv : Value) (A : Around) (outer : List PySem.Env) (s : Shared) (H : Hp) (E : XK) (hr : Room 0 (A.deeper (PyProof.Rows.envOfC "_law_between" (defScope s_law_between) s.heap.objs.size f cdv))) :
    PSs (bodyCx c mg base sn_law_between "_law_between" s_law_between f cdv A outer s H E) (defBody s_law_between) (t_law_between c) := by
  have nd := sc_law_between.nd
  exact pss_one (ps_ret (pe_lc (own := [("arrow", 3)]) (g := (gName 3)) (tt := (tTest (tOp (rEqD c.K) (tOp (rIxL c.K) (tOp (rIxT c.K) (tVar 0) (tC (.int 0))) (tVar 3)) (tTup (tCons (tVar 1) (tCons (tVar 2) tNil)))))) (wi := (iRng1 (tCons (tCB (lLen c.K) (tCons (tOp (rIxT c.K) (tVar 0) (tC (.int 0))) tNil)) tNil))) (te := (tVar 3)) rfl nd (pi_range1 (by rfl) T.b_range (pa_cons (pe_callB c_len (by rfl) T.b_len PySem.boot_len (pa_cons (pe_ix ix_tup (pv 0) (pe_int) (fun _ _ => rfl)) pa_nil)) pa_nil)) (blkOk_by (own := [("arrow", 3)]) (N := sn_law_between) (sc := defScope s_law_between) (scope := sx_law_between_0) (by decide +kernel)) (fun _ _ _ _ _ => pg_name (i := 3) nd rfl (Or.inl rfl)) (fun _ _ _ _ _ => pts_one (pt_cmpR (op_eqD hr.units) (pe_ix ix_list (pe_ix ix_tup (pv 0) (pe_int) (fun _ _ => rfl)) (pv 3) (fun _ _ => rfl)) (pe_tup (pa_cons (pv 1) (pa_cons (pv 2) pa_nil))) (nomark _))) (fun _ _ _ _ _ => pv 3)))
theorem k_law_between {c : Cfg} {mg : Str → Option Value} {base : Heap} (T : Top c mg) : Callee c mg base "_law_between" 1 ["parts", "box", "other"] (sp_law_between c) :=
  callee_of T.d_law_between sc_law_between (len_law_between c) (fun _ _ _ _ _ _ us hl => match us, hl with | [_, _, _], _ => rfl) (fun f cdv A outer s H E hr => d_law_between T f cdv A outer s H E hr) (run_law_between c)
def sp_law_reading_of (c : Cfg) : Sp := spF c (ι := List Int × List Arr) (fun x => [pd (hallOf x.1 x.2) [dat x.2, dat x.1]]) (fun x => GoodA x.1 x.2) 0 (fun x => Dat.d (plainR x.1 x.2))
theorem len_law_reading_of (c : Cfg) : ∀ vs H Q E, sp_law_reading_of c vs H Q E → vs.length = 1 := spF_len fun _ => rfl

def sn_law_reading_of : List Str := ["parts", "size", "arrow"]
def sx_law_reading_of_0 : Scope := { kind := .function, names := [(".0", .local), ("size", .local)], isGenerator := false, isCoroutine := false, more := [] }
def sx_law_reading_of_1 : Scope := { kind := .function, names := [(".0", .local), ("arrow", .local), ("list", .globalImplicit)], isGenerator := false, isCoroutine := false, more := [] }
theorem sc_law_reading_of : FnScope sn_law_reading_of ["parts"] (defScope s_law_reading_of) := ⟨rfl, rfl, rfl, by decide +kernel, rfl, by decide +kernel, by decide +kernel⟩
def t_law_reading_of (c : Cfg) : TS :=
  (tRet (tTup (tCons (tLc (iList c.K (tOp (rIxT c.K) (tVar 0) (tC (.int 4)))) (gName 1) tYes (tVar 1) [1]) (tCons (tLc (iList c.K (tOp (rIxT c.K) (tVar 0) (tC (.int 3)))) (gName 2) tYes (tCB (lList c.K) (tCons (tOp (rIxT c.K) (tVar 2) (tC (.int 2))) tNil)) [2]) tNil))))

theorem run_law_reading_of (c : Cfg) : ∀ vs H Q E, sp_law_reading_of c vs H Q E → t_law_reading_of c { nx := fun _ H' => Q .non H', rt := Q } (L2.start sn_law_reading_of vs) H := by
  refine fn_run (ρ0 := fun x => [some (0, pd (hallOf x.1 x.2) [dat x.2, dat x.1]), none, none]) (fun _ => rfl) (fun _ => Nat.le_of_ble_eq_true rfl) ?_
  rintro ⟨sz, known⟩ G
  dsimp only at G ⊢
  obtain ⟨s1, s2, s3⟩ := all_small sz G.sm
  have hn := ok_count G.sm G.nd G.ok
  refine run_retA (plainR sz known) (NX.give 1 (nx_tup2 ?_ ?_)) ⟨rfl, rfl⟩
  · have h : NX c (tLc (iList c.K (tOp (rIxT c.K) (tVar 0) (tC (.int 4)))) (gName 1) tYes (tVar 1) [1]) [some (0, pd (hallOf sz known) [dat known, dat sz]), none, none] 1 (sz.map fun s => s) := by
      apply nx_lcLm sz (fun s => s)
      · exact tx_q4 (h := hallOf sz known) (y := dat known) (r := []) (px_var rfl)
      · exact fun _ => gt_nm
      · intro s hs
        exact TX.nx (tx_var rfl)
      · omega
      · decide
    rw [List.map_id'] at h
    exact NX.give 1 h
  · refine NX.give 2 (x := known.map fun a => a.c.l) ?_
    apply nx_lcLm known (fun a => a.c.l)
    · exact tx_q3 (h := hallOf sz known) (r := [dat sz]) (px_var rfl)
    · exact fun _ => gt_nm
    · intro a ha
      exact ex_listT (ds := a.c.l.map Dat.d) (tx_tri2 (p := a) (tx_var rfl))
    · omega
    · decide

theorem d_law_reading_of {c : Cfg} {mg : Str → Option Value} {base : Heap} (T : Top c mg) (f : Addr) (cdv : Value) (A : Around) (outer : List PySem.Env) (s : Shared) (H : Hp) (E : XK) (hr : Room 0 (A.deeper (PyProof.Rows.envOfC "_law_reading_of" (defScope s_law_reading_of) s.heap.objs.size f cdv))) :
    PSs (bodyCx c mg base sn_law_reading_of "_law_reading_of" s_law_reading_of f cdv A outer s H E) (defBody s_law_reading_of) (t_law_reading_of c) := by
  have nd := sc_law_reading_of.nd
  exact pss_one (ps_ret (pe_tup (pa_cons (pe_lc (own := [("size", 1)]) (g := (gName 1)) (tt := tYes) (wi := (iList c.K (tOp (rIxT c.K) (tVar 0) (tC (.int 4))))) (te := (tVar 1)) rfl nd (pi_list (pe_ix ix_tup (pv 0) (pe_int) (fun _ _ => rfl))) (blkOk_by (own := [("size", 1)]) (N := sn_law_reading_of) (sc := defScope s_law_reading_of) (scope := sx_law_reading_of_0) (by decide +kernel)) (fun _ _ _ _ _ => pg_name (i := 1) nd rfl (Or.inl rfl)) (fun _ _ _ _ _ => pts_nil) (fun _ _ _ _ _ => pv 1)) (pa_cons (pe_lc (own := [("arrow", 2)]) (g := (gName 2)) (tt := tYes) (wi := (iList c.K (tOp (rIxT c.K) (tVar 0) (tC (.int 3))))) (te := (tCB (lList c.K) (tCons (tOp (rIxT c.K) (tVar 2) (tC (.int 2))) tNil))) rfl nd (pi_list (pe_ix ix_tup (pv 0) (pe_int) (fun _ _ => rfl))) (blkOk_by (own := [("arrow", 2)]) (N := sn_law_reading_of) (sc := defScope s_law_reading_of) (scope := sx_law_reading_of_1) (by decide +kernel)) (fun _ _ _ _ _ => pg_name (i := 2) nd rfl (Or.inl rfl)) (fun _ _ _ _ _ => pts_nil) (fun _ _ _ _ _ => pe_callTy c_list (by rfl) T.b_list (by decide +kernel) (pa_cons (pe_ix ix_tup (pv 2) (pe_int) (fun _ _ => rfl)) pa_nil))) pa_nil))))
theorem k_law_reading_of {c : Cfg} {mg : Str → Option Value} {base : Heap} (T : Top c mg) : Callee c mg base "_law_reading_of" 1 ["parts"] (sp_law_reading_of c) :=
  callee_of T.d_law_reading_of sc_law_reading_of (len_law_reading_of c) (fun _ _ _ _ _ _ us hl => match us, hl with | [_], _ => rfl) (fun f cdv A outer s H E hr => d_law_reading_of T f cdv A outer s H E hr) (run_law_reading_of c)
def sp_law_out (c : Cfg) : Sp := spF c (ι := HallT × Int × List D) (fun x => [pd x.1 x.2.2, dat x.2.1]) (fun x => HallOk x.1) 0 (fun x => Dat.d ((outC x.1 x.2.1, outM x.1 x.2.1) : ReadT))
theorem len_law_out (c : Cfg) : ∀ vs H Q E, sp_law_out c vs H Q E → vs.length = 2 := spF_len fun _ => rfl

def sn_law_out : List Str := ["parts", "box", "other", "things", "maps", "arrow", "one", "first", "row"]
def sx_law_out_0 : Scope := { kind := .function, names := [(".0", .local), ("other", .local), ("_law_between", .globalImplicit), ("box", .free), ("parts", .free)], isGenerator := false, isCoroutine := false, more := [] }
def sxr_law_out_0 : Scope := { kind := .function, names := [(".0", .local), ("other", .local), ("_law_between", .globalImplicit), ("box", .cell), ("parts", .cell)], isGenerator := false, isCoroutine := false, more := [] }
def sx_law_out_1 : Scope := { kind := .function, names := [(".0", .local), ("first", .local), ("arrow", .free), ("other", .free), ("parts", .free), ("things", .free)], isGenerator := false, isCoroutine := false, more := [] }
def sxr_law_out_1 : Scope := { kind := .function, names := [(".0", .local), ("first", .local), ("arrow", .cell), ("other", .cell), ("parts", .cell), ("things", .cell)], isGenerator := false, isCoroutine := false, more := [] }
def sx_law_out_2 : Scope := { kind := .function, names := [(".0", .local), ("first", .local), ("arrow", .free), ("other", .free), ("parts", .free), ("things", .free)], isGenerator := false, isCoroutine := false, more := [] }
def sxr_law_out_2 : Scope := { kind := .function, names := [(".0", .local), ("first", .local), ("arrow", .cell), ("other", .cell), ("parts", .cell), ("things", .cell)], isGenerator := false, isCoroutine := false, more := [] }
def sx_law_out_3 : Scope := { kind := .function, names := [(".0", .local), ("row", .local), ("len", .globalImplicit)], isGenerator := false, isCoroutine := false, more := [] }
theorem sc_law_out : FnScope sn_law_out ["parts", "box"] (defScope s_law_out) := ⟨rfl, rfl, rfl, by decide +kernel, rfl, by decide +kernel, by decide +kernel⟩
def t_law_out (c : Cfg) : TS :=
  (tSeq (tAsg (tLc (iRng1 (tCons (tCB (lLen c.K) (tCons (tOp (rIxT c.K) (tVar 0) (tC (.int 1))) tNil)) tNil)) (gName 2) tYes (tCall (sp_law_between c) [] E0 (tCons (tVar 0) (tCons (tVar 1) (tCons (tVar 2) tNil)))) [2]) (gName 3))
    (tSeq (tAsg (tLst tNil) (gName 4))
    (tSeq (tFor (iRng1 (tCons (tCB (lLen c.K) (tCons (tOp (rIxT c.K) (tVar 0) (tC (.int 0))) tNil)) tNil)) (gName 5)
      (tSeq (tAsg (tOp (rIxL c.K) (tOp (rIxT c.K) (tVar 0) (tC (.int 0))) (tVar 5)) (gTup c.K 2 (gCons (gName 6) (gCons (gName 2) gNil))))
    (tDrop (tBM c.K "list" rAppend (tVar 4) (tCons (tLc (iList c.K (tOp (rIxL c.K) (tVar 3) (tVar 6))) (gName 7) tYes (tBM c.K "list" (rIndex c.K) (tOp (rIxL c.K) (tVar 3) (tVar 2)) (tCons (tOp (rIxL c.K) (tOp (rIxL c.K) (tOp (rIxT c.K) (tVar 0) (tC (.int 2))) (tVar 7)) (tVar 5)) tNil)) [7]) tNil)))))
    (tRet (tTup (tCons (tLc (iList c.K (tVar 3)) (gName 8) tYes (tCB (lLen c.K) (tCons (tVar 8) tNil)) [8]) (tCons (tVar 4) tNil)))))))

theorem run_law_out (c : Cfg) : ∀ vs H Q E, sp_law_out c vs H Q E → t_law_out c { nx := fun _ H' => Q .non H', rt := Q } (L2.start sn_law_out vs) H := by
  refine fn_run (ρ0 := fun x => [some (0, pd x.1 x.2.2), some (0, dat x.2.1), none, none, none, none, none, none, none]) (fun _ => rfl) (fun _ => Nat.le_of_ble_eq_true rfl) ?_
  rintro ⟨h, box, r⟩ hp
  dsimp only at hp ⊢
  obtain ⟨⟨hr0, hr1, he0, he1⟩, _, ht, _, _⟩ := hall_parts hp
  have hl := tr_len ht
  generalize hth : (List.range h.r.length).map (fun (o : Nat) => betw h.e box (o : Int)) = things
  have tlen : things.length = h.r.length := by rw [← hth, List.length_map, List.length_range]
  have tat : ∀ {o : Int}, 0 ≤ o → o < h.r.length → at' things o = betw h.e box o := fun {o} o0 o1 => by
    obtain ⟨k, rfl⟩ := Int.eq_ofNat_of_zero_le o0
    rw [← hth]
    exact at_rangeMap (f := fun (o : Nat) => betw h.e box (o : Int)) (by omega)
  have bl : ∀ o : Int, (betw h.e box o).length ≤ 40 := fun o => Nat.le_trans betw_len he1
  apply run_seq
  apply run_setA things
  · refine NX.give 2 (x := things) ?_
    rw [← hth]
    apply nx_lcRm (m := h.r.length) (fun (o : Nat) => betw h.e box (o : Int))
    · apply tx_len
      exact tx_q1 (px_var rfl)
    · rfl
    · exact fun _ => gt_ni
    · intro o ho
      exact nx_call (h, box, (o : Int), r) (ea_cons (px_var rfl) (tea_cons (tx_var rfl) (tea_cons (tx_var rfl) tea_nil))) (by show h.e.length ≤ 1000; omega)
    · omega
    · decide
  dsimp only [List.set]
  apply run_seq
  apply run_setO 1 ([] : List (List Int))
  · exact nx_nil
  dsimp only [List.set]
  apply run_seq
  apply run_forRT (m := h.e.length) (fun n ρ' => ∃ a2 a5 a6, ρ' = [some (0, pd h r), some (0, dat box), a2, some (0, dat things), some (1, dat ((List.range n).map fun (a : Nat) => outRow h box (a : Int))), a5, a6, none, none])
  · apply tx_len
    exact tx_q0 (px_var rfl)
  · rfl
  · omega
  · exact ⟨_, _, _, rfl⟩
  · rintro a ρ' ha ⟨a2, a5, a6, rfl⟩
    obtain ⟨⟨e0, e1⟩, e2, e3⟩ := ends_of hp (i := (a : Int)) (by omega) (by omega)
    dsimp only [List.set]
    apply run_seq
    apply run_asg2 (p := at' h.e (a : Int))
    · exact tx_ix (tx_q0 (px_var rfl)) (tx_var rfl) (by omega) (by omega)
    dsimp only [List.set]
    apply run_appT (n := 0) (xs := (List.range a).map fun (a : Nat) => outRow h box (a : Int)) (x := outRow h box (a : Int)) rfl
    · apply TX.nx
      refine NX.give 1 (x := outRow h box (a : Int)) ?_
      unfold outRow
      apply nx_lcLm (betw h.e box (at' h.e (a : Int)).1) (fun f => ((placeI (betw h.e box (at' h.e (a : Int)).2) (at' (at' h.t f) (a : Int)) : Nat) : Int))
      · rw [← tat e0 e1]
        walk_at "ev"
      · exact fun _ => gt_nm
      · intro f hf
        obtain ⟨f0, f1, f2⟩ := mem_betw.mp hf
        have hrow := tr_row ht f0 f1
        apply TX.nx
        apply tx_index
        · rw [← tat e2 e3]
          walk_at "ev"
        · exact tx_ix (tx_ix (tx_q2 (px_var rfl)) (tx_var rfl) f0 (by omega)) (tx_var rfl) (by omega) (by omega)
        · exact made_arrow hp hf (betw_self (by omega) (by omega))
      · have := bl (at' h.e (a : Int)).1
        omega
      · decide
    · rw [List.length_map, List.length_range]
      omega
    · dsimp only [List.set]
      rw [List.range_succ, List.map_append, List.map_singleton]
      exact ⟨_, _, _, rfl⟩
  rintro ρ' ⟨a2, a5, a6, rfl⟩
  refine run_give (i := 4) rfl ?_
  dsimp only [List.set]
  refine run_retA ((outC h box, outM h box) : ReadT) (NX.give 1 (nx_tup2 ?_ ?_)) ⟨rfl, rfl⟩
  · have q : NX c (tLc (iList c.K (tVar 3)) (gName 8) tYes (tCB (lLen c.K) (tCons (tVar 8) tNil)) [8]) [some (0, pd h r), some (0, dat box), a2, some (0, dat things), some (0, dat ((List.range h.e.length).map fun (a : Nat) => outRow h box (a : Int))), a5, a6, none, none] 1 (things.map fun l => (l.length : Int)) := by
      apply nx_lcLm things (fun l => (l.length : Int))
      · exact tx_var rfl
      · exact fun _ => gt_nm
      · intro l hl
        exact TX.nx (tx_len (tx_var rfl))
      · omega
      · decide
    rw [← hth, List.map_map] at q
    rw [← hth]
    exact NX.give 1 q
  · exact tx_var (x := outM h box) rfl

theorem d_law_out {c : Cfg} {mg : Str → Option Value} {base : Heap} (T : Top c mg) (c_law_between : Callee c mg base "_law_between" 1 ["parts", "box", "other"] (sp_law_between c)) (f : Addr) (cdv : Value) (A : Around) (outer : List PySem.Env) (s : Shared) (H : Hp) (E : XK) (hr : Room 1 (A.deeper (PyProof.Rows.envOfC "_law_out" (defScope s_law_out) s.heap.objs.size f cdv))) :
    PSs (bodyCx c mg base sn_law_out "_law_out" s_law_out f cdv A outer s H E) (defBody s_law_out) (t_law_out c) := by
  have nd := sc_law_out.nd
  exact pss_cons (ps_set (i := 3) nd rfl (Or.inr rfl) (pe_lc (own := [("other", 2)]) (g := (gName 2)) (tt := tYes) (wi := (iRng1 (tCons (tCB (lLen c.K) (tCons (tOp (rIxT c.K) (tVar 0) (tC (.int 1))) tNil)) tNil))) (te := (tCall (sp_law_between c) [] E0 (tCons (tVar 0) (tCons (tVar 1) (tCons (tVar 2) tNil))))) rfl nd (pi_range1 (by rfl) T.b_range (pa_cons (pe_callB c_len (by rfl) T.b_len PySem.boot_len (pa_cons (pe_ix ix_tup (pv 0) (pe_int) (fun _ _ => rfl)) pa_nil)) pa_nil)) (blkOk_by (own := [("other", 2)]) (N := sn_law_out) (sc := defScope s_law_out) (scope := sx_law_out_0) (by decide +kernel)) (fun _ _ _ _ _ => pg_name (i := 2) nd rfl (Or.inl rfl)) (fun _ _ _ _ _ => pts_nil) (fun _ _ _ _ _ => pe_callD c_law_between rfl rfl rfl (hr.mono (by decide)) (by rfl) (pa_cons (pv 0) (pa_cons (pv 1) (pa_cons (pv 2) pa_nil))))))
    (pss_cons (ps_set (i := 4) nd rfl (Or.inl rfl) (pe_lst (pa_nil)))
    (pss_cons (ps_for PassesOwn.never rfl (pi_range1 (by rfl) T.b_range (pa_cons (pe_callB c_len (by rfl) T.b_len PySem.boot_len (pa_cons (pe_ix ix_tup (pv 0) (pe_int) (fun _ _ => rfl)) pa_nil)) pa_nil)) (pg_name (i := 5) nd rfl (Or.inr rfl))
      (pss_cons (ps_asg (pe_ix ix_list (pe_ix ix_tup (pv 0) (pe_int) (fun _ _ => rfl)) (pv 5) (fun _ _ => rfl)) (pg_tup rfl (pgs_cons (pg_name (i := 6) nd rfl (Or.inl rfl)) (pgs_cons (pg_name (i := 2) nd rfl (Or.inr rfl)) pgs_nil))))
    (pss_one (ps_expr (pe_bm PySem.F.plainAttrs_list PySem.F.slot_list_append PySem.F.type_list_append mt_append (pv 4) (pa_cons (pe_lc (own := [("first", 7)]) (g := (gName 7)) (tt := tYes) (wi := (iList c.K (tOp (rIxL c.K) (tVar 3) (tVar 6)))) (te := (tBM c.K "list" (rIndex c.K) (tOp (rIxL c.K) (tVar 3) (tVar 2)) (tCons (tOp (rIxL c.K) (tOp (rIxL c.K) (tOp (rIxT c.K) (tVar 0) (tC (.int 2))) (tVar 7)) (tVar 5)) tNil))) rfl nd (pi_list (pe_ix ix_list (pv 3) (pv 6) (fun _ _ => rfl))) (blkOk_by (own := [("first", 7)]) (N := sn_law_out) (sc := defScope s_law_out) (scope := sx_law_out_1) (by decide +kernel)) (fun _ _ _ _ _ => pg_name (i := 7) nd rfl (Or.inl rfl)) (fun _ _ _ _ _ => pts_nil) (fun _ _ _ _ _ => pe_bm PySem.F.plainAttrs_list PySem.F.slot_list_index PySem.F.type_list_index mt_index (pe_ix ix_list (pv 3) (pv 2) (fun _ _ => rfl)) (pa_cons (pe_ix ix_list (pe_ix ix_list (pe_ix ix_tup (pv 0) (pe_int) (fun _ _ => rfl)) (pv 7) (fun _ _ => rfl)) (pv 5) (fun _ _ => rfl)) pa_nil))) pa_nil))))))
    (pss_one (ps_ret (pe_tup (pa_cons (pe_lc (own := [("row", 8)]) (g := (gName 8)) (tt := tYes) (wi := (iList c.K (tVar 3))) (te := (tCB (lLen c.K) (tCons (tVar 8) tNil))) rfl nd (pi_list (pv 3)) (blkOk_by (own := [("row", 8)]) (N := sn_law_out) (sc := defScope s_law_out) (scope := sx_law_out_3) (by decide +kernel)) (fun _ _ _ _ _ => pg_name (i := 8) nd rfl (Or.inl rfl)) (fun _ _ _ _ _ => pts_nil) (fun _ _ _ _ _ => pe_callB c_len (by rfl) T.b_len PySem.boot_len (pa_cons (pv 8) pa_nil))) (pa_cons (pv 4) pa_nil)))))))
theorem k_law_out {c : Cfg} {mg : Str → Option Value} {base : Heap} (T : Top c mg) (c_law_between : Callee c mg base "_law_between" 1 ["parts", "box", "other"] (sp_law_between c)) : Callee c mg base "_law_out" 2 ["parts", "box"] (sp_law_out c) :=
  callee_of T.d_law_out sc_law_out (len_law_out c) (fun _ _ _ _ _ _ us hl => match us, hl with | [_, _], _ => rfl) (fun f cdv A outer s H E hr => d_law_out T c_law_between f cdv A outer s H E hr) (run_law_out c)
def sp_law_beside (c : Cfg) : Sp := spF c (ι := HallT × List D × ReadT × ReadT) (fun x => [pd x.1 x.2.1, dat x.2.2.1, dat x.2.2.2]) (fun x => HallOk x.1 ∧ ReadOk x.1 x.2.2.1.1 x.2.2.1.2 ∧ ReadOk x.1 x.2.2.2.1 x.2.2.2.2) 0 (fun x => Dat.d ((besideC x.2.2.1.1 x.2.2.2.1, besideM x.1 x.2.2.1 x.2.2.2) : ReadT))
theorem len_law_beside (c : Cfg) : ∀ vs H Q E, sp_law_beside c vs H Q E → vs.length = 3 := spF_len fun _ => rfl

def sn_law_beside : List Str := ["parts", "one", "other", "maps", "arrow", "more", "thing", "a", "b"]
def sx_law_beside_0 : Scope := { kind := .function, names := [(".0", .local), ("thing", .local), ("more", .free)], isGenerator := false, isCoroutine := false, more := [] }
def sxr_law_beside_0 : Scope := { kind := .function, names := [(".0", .local), ("thing", .local), ("more", .cell)], isGenerator := false, isCoroutine := false, more := [] }
def sx_law_beside_1 : Scope := { kind := .function, names := [(".0", .local), ("thing", .local), ("more", .free)], isGenerator := false, isCoroutine := false, more := [] }
def sxr_law_beside_1 : Scope := { kind := .function, names := [(".0", .local), ("thing", .local), ("more", .cell)], isGenerator := false, isCoroutine := false, more := [] }
def sx_law_beside_2 : Scope := { kind := .function, names := [(".0", .local), ("a", .local), ("b", .local)], isGenerator := false, isCoroutine := false, more := [] }
theorem sc_law_beside : FnScope sn_law_beside ["parts", "one", "other"] (defScope s_law_beside) := ⟨rfl, rfl, rfl, by decide +kernel, rfl, by decide +kernel, by decide +kernel⟩
def t_law_beside (c : Cfg) : TS :=
  (tSeq (tAsg (tLst tNil) (gName 3))
    (tSeq (tFor (iRng1 (tCons (tCB (lLen c.K) (tCons (tOp (rIxT c.K) (tVar 0) (tC (.int 0))) tNil)) tNil)) (gName 4)
      (tSeq (tAsg (tOp (rIxL c.K) (tOp (rIxT c.K) (tVar 1) (tC (.int 0))) (tOp (rIxT c.K) (tOp (rIxL c.K) (tOp (rIxT c.K) (tVar 0) (tC (.int 0))) (tVar 4)) (tC (.int 1)))) (gName 5))
    (tDrop (tBM c.K "list" rAppend (tVar 3) (tCons (tOp rCat (tOp (rIxL c.K) (tOp (rIxT c.K) (tVar 1) (tC (.int 1))) (tVar 4)) (tLc (iList c.K (tOp (rIxL c.K) (tOp (rIxT c.K) (tVar 2) (tC (.int 1))) (tVar 4))) (gName 6) tYes (tOp zAdd (tVar 6) (tVar 5)) [6])) tNil)))))
    (tRet (tTup (tCons (tLc (iZip c.K (tCons (tOp (rIxT c.K) (tVar 1) (tC (.int 0))) (tCons (tOp (rIxT c.K) (tVar 2) (tC (.int 0))) tNil))) (gTup c.K 2 (gCons (gName 7) (gCons (gName 8) gNil))) tYes (tOp zAdd (tVar 7) (tVar 8)) [7, 8]) (tCons (tVar 3) tNil))))))

theorem run_law_beside (c : Cfg) : ∀ vs H Q E, sp_law_beside c vs H Q E → t_law_beside c { nx := fun _ H' => Q .non H', rt := Q } (L2.start sn_law_beside vs) H := by
  refine fn_run (ρ0 := fun x => [some (0, pd x.1 x.2.1), some (0, dat x.2.2.1), some (0, dat x.2.2.2), none, none, none, none, none, none]) (fun _ => rfl) (fun _ => Nat.le_of_ble_eq_true rfl) ?_
  rintro ⟨h, r, ⟨c1, m1⟩, ⟨c2, m2⟩⟩ ⟨hp, R, S⟩
  dsimp only at hp R S ⊢
  obtain ⟨⟨hr0, hr1, he0, he1⟩, _, ht, _, _⟩ := hall_parts hp
  have lc1 := R.lc
  have lm1 := R.lm
  have lc2 := S.lc
  have lm2 := S.lm
  apply run_seq
  apply run_setO 1 ([] : List (List Int))
  · exact nx_nil
  dsimp only [List.set]
  apply run_seq
  apply run_forRT (m := h.e.length) (fun n ρ' => ∃ a4 a5 a6, ρ' = [some (0, pd h r), some (0, dat ((c1, m1) : ReadT)), some (0, dat ((c2, m2) : ReadT)), some (1, dat ((List.range n).map fun (i : Nat) => at' m1 (i : Int) ++ (at' m2 (i : Int)).map fun x => x + at' c1 (at' h.e (i : Int)).2)), a4, a5, a6, none, none])
  · walk_at "ev"
  · rfl
  · omega
  · exact ⟨_, _, _, rfl⟩
  · rintro i ρ' hi ⟨a4, a5, a6, rfl⟩
    obtain ⟨_, e2, e3⟩ := ends_of hp (i := (i : Int)) (by omega) (by omega)
    have l1 := R.row hp (i := (i : Int)) (by omega) (by omega)
    have l2 := S.row hp (i := (i : Int)) (by omega) (by omega)
    dsimp only [List.set]
    apply run_seq
    apply run_setT
    · apply tx_ix
      · exact tx_fst (p := ((c1, m1) : ReadT)) (tx_var rfl)
      · walk_at "ev"
      · omega
      · (try dsimp only); omega
    dsimp only [List.set]
    apply run_appT (n := 0) (xs := (List.range i).map fun (i : Nat) => at' m1 (i : Int) ++ (at' m2 (i : Int)).map fun x => x + at' c1 (at' h.e (i : Int)).2) (x := at' m1 (i : Int) ++ (at' m2 (i : Int)).map fun x => x + at' c1 (at' h.e (i : Int)).2) rfl
    · apply TX.nx
      apply NX.tx
      apply nx_cat
      · apply tx_ix
        · exact tx_snd (p := ((c1, m1) : ReadT)) (tx_var rfl)
        · walk_at "ev"
        · omega
        · (try dsimp only); omega
      · refine NX.give 1 (x := (at' m2 (i : Int)).map fun x => x + at' c1 (at' h.e (i : Int)).2) ?_
        apply nx_lcLm (at' m2 (i : Int)) (fun x => x + at' c1 (at' h.e (i : Int)).2)
        · apply tx_ix
          · exact tx_snd (p := ((c2, m2) : ReadT)) (tx_var rfl)
          · walk_at "ev"
          · omega
          · (try dsimp only); omega
        · exact fun _ => gt_nm
        · intro x hx
          apply TX.nx
          walk_at "ev"
        · omega
        · decide
      · rw [List.length_map]
        omega
    · rw [List.length_map, List.length_range]
      omega
    · dsimp only [List.set]
      rw [List.range_succ, List.map_append, List.map_singleton]
      exact ⟨_, _, _, rfl⟩
  rintro ρ' ⟨a4, a5, a6, rfl⟩
  refine run_give (i := 3) rfl ?_
  dsimp only [List.set]
  refine run_retA ((besideC c1 c2, besideM h (c1, m1) (c2, m2)) : ReadT) (NX.give 1 (nx_tup2 ?_ ?_)) ⟨rfl, rfl⟩
  · refine NX.give 1 (x := besideC c1 c2) ?_
    unfold besideC
    apply nx_lcZm c1 c2 (fun x y => x + y)
    · exact tx_fst (p := ((c1, m1) : ReadT)) (tx_var rfl)
    · exact tx_fst (p := ((c2, m2) : ReadT)) (tx_var rfl)
    · omega
    · intro x y hx hy
      apply TX.nx
      walk_at "ev"
    · omega
    · decide
  · exact tx_var (x := besideM h (c1, m1) (c2, m2)) rfl

theorem d_law_beside {c : Cfg} {mg : Str → Option Value} {base : Heap} (T : Top c mg) (f : Addr) (cdv : Value) (A : Around) (outer : List PySem.Env) (s : Shared) (H : Hp) (E : XK) (hr : Room 0 (A.deeper (PyProof.Rows.envOfC "_law_beside" (defScope s_law_beside) s.heap.objs.size f cdv))) :
    PSs (bodyCx c mg base sn_law_beside "_law_beside" s_law_beside f cdv A outer s H E) (defBody s_law_beside) (t_law_beside c) := by
  have nd := sc_law_beside.nd
  exact pss_cons (ps_set (i := 3) nd rfl (Or.inl rfl) (pe_lst (pa_nil)))
    (pss_cons (ps_for PassesOwn.never rfl (pi_range1 (by rfl) T.b_range (pa_cons (pe_callB c_len (by rfl) T.b_len PySem.boot_len (pa_cons (pe_ix ix_tup (pv 0) (pe_int) (fun _ _ => rfl)) pa_nil)) pa_nil)) (pg_name (i := 4) nd rfl (Or.inl rfl))
      (pss_cons (ps_set (i := 5) nd rfl (Or.inr rfl) (pe_ix ix_list (pe_ix ix_tup (pv 1) (pe_int) (fun _ _ => rfl)) (pe_ix ix_tup (pe_ix ix_list (pe_ix ix_tup (pv 0) (pe_int) (fun _ _ => rfl)) (pv 4) (fun _ _ => rfl)) (pe_int) (fun _ _ => rfl)) (fun _ _ => rfl)))
    (pss_one (ps_expr (pe_bm PySem.F.plainAttrs_list PySem.F.slot_list_append PySem.F.type_list_append mt_append (pv 3) (pa_cons (pe_op op_cat (pe_ix ix_list (pe_ix ix_tup (pv 1) (pe_int) (fun _ _ => rfl)) (pv 4) (fun _ _ => rfl)) (pe_lc (own := [("thing", 6)]) (g := (gName 6)) (tt := tYes) (wi := (iList c.K (tOp (rIxL c.K) (tOp (rIxT c.K) (tVar 2) (tC (.int 1))) (tVar 4)))) (te := (tOp zAdd (tVar 6) (tVar 5))) rfl nd (pi_list (pe_ix ix_list (pe_ix ix_tup (pv 2) (pe_int) (fun _ _ => rfl)) (pv 4) (fun _ _ => rfl))) (blkOk_by (own := [("thing", 6)]) (N := sn_law_beside) (sc := defScope s_law_beside) (scope := sx_law_beside_0) (by decide +kernel)) (fun _ _ _ _ _ => pg_name (i := 6) nd rfl (Or.inl rfl)) (fun _ _ _ _ _ => pts_nil) (fun _ _ _ _ _ => pe_op o_add (pv 6) (pv 5)))) pa_nil))))))
    (pss_one (ps_ret (pe_tup (pa_cons (pe_lc (own := [("a", 7), ("b", 8)]) (g := (gTup c.K 2 (gCons (gName 7) (gCons (gName 8) gNil)))) (tt := tYes) (wi := (iZip c.K (tCons (tOp (rIxT c.K) (tVar 1) (tC (.int 0))) (tCons (tOp (rIxT c.K) (tVar 2) (tC (.int 0))) tNil)))) (te := (tOp zAdd (tVar 7) (tVar 8))) rfl nd (pi_zip (by rfl) T.b_zip (pa_cons (pe_ix ix_tup (pv 1) (pe_int) (fun _ _ => rfl)) (pa_cons (pe_ix ix_tup (pv 2) (pe_int) (fun _ _ => rfl)) pa_nil))) (blkOk_by (own := [("a", 7), ("b", 8)]) (N := sn_law_beside) (sc := defScope s_law_beside) (scope := sx_law_beside_2) (by decide +kernel)) (fun _ _ _ _ _ => pg_tup rfl (pgs_cons (pg_name (i := 7) nd rfl (Or.inl rfl)) (pgs_cons (pg_name (i := 8) nd rfl (Or.inl rfl)) pgs_nil))) (fun _ _ _ _ _ => pts_nil) (fun _ _ _ _ _ => pe_op o_add (pv 7) (pv 8))) (pa_cons (pv 3) pa_nil))))))
theorem k_law_beside {c : Cfg} {mg : Str → Option Value} {base : Heap} (T : Top c mg) : Callee c mg base "_law_beside" 1 ["parts", "one", "other"] (sp_law_beside c) :=
  callee_of T.d_law_beside sc_law_beside (len_law_beside c) (fun _ _ _ _ _ _ us hl => match us, hl with | [_, _, _], _ => rfl) (fun f cdv A outer s H E hr => d_law_beside T f cdv A outer s H E hr) (run_law_beside c)
def sp_law_drawn_reading (c : Cfg) : Sp := spG c (ι := List Int × Int × List Int × List Arr) (fun z => [.scr z.1, dat z.2.1, pd (hallOf z.2.2.1 z.2.2.2) [dat z.2.2.2, dat z.2.2.1]]) (fun z => 0 ≤ z.2.1 ∧ GoodA z.2.2.1 z.2.2.2) 0 (fun z d => ∃ (cs : List Int) (ms : List (List Int)), d = Dat.d ((cs, ms) : ReadT) ∧ ReadOk (hallOf z.2.2.1 z.2.2.2) cs ms ∧ ∀ x ∈ cs, x ≤ 4)
theorem len_law_drawn_reading (c : Cfg) : ∀ vs H Q E, sp_law_drawn_reading c vs H Q E → vs.length = 3 := spG_len fun _ => rfl

def sn_law_drawn_reading : List Str := ["script", "k", "parts", "point", "none", "plain", "way", "out", "box", "arrow"]
def sx_law_drawn_reading_0 : Scope := { kind := .function, names := [(".0", .local), ("box", .local)], isGenerator := false, isCoroutine := false, more := [] }
def sx_law_drawn_reading_1 : Scope := { kind := .function, names := [(".0", .local), ("arrow", .local)], isGenerator := false, isCoroutine := false, more := [] }
def sx_law_drawn_reading_2 : Scope := { kind := .function, names := [(".0", .local), ("box", .local)], isGenerator := false, isCoroutine := false, more := [] }
def sx_law_drawn_reading_3 : Scope := { kind := .function, names := [(".0", .local), ("arrow", .local)], isGenerator := false, isCoroutine := false, more := [] }
theorem sc_law_drawn_reading : FnScope sn_law_drawn_reading ["script", "k", "parts"] (defScope s_law_drawn_reading) := ⟨rfl, rfl, rfl, by decide +kernel, rfl, by decide +kernel, by decide +kernel⟩
def t_law_drawn_reading (c : Cfg) : TS :=
  (tSeq (tAsg (tTup (tCons (tLc (iList c.K (tOp (rIxT c.K) (tVar 2) (tC (.int 1)))) (gName 8) tYes (tC (.int 1)) [8]) (tCons (tLc (iList c.K (tOp (rIxT c.K) (tVar 2) (tC (.int 0)))) (gName 9) tYes (tLst (tCons (tC (.int 0)) tNil)) [9]) tNil))) (gName 3))
    (tSeq (tAsg (tTup (tCons (tLc (iList c.K (tOp (rIxT c.K) (tVar 2) (tC (.int 1)))) (gName 8) tYes (tC (.int 0)) [8]) (tCons (tLc (iList c.K (tOp (rIxT c.K) (tVar 2) (tC (.int 0)))) (gName 9) tYes (tLst tNil) [9]) tNil))) (gName 4))
    (tSeq (tAsg (tCall (sp_law_reading_of c) [] E0 (tCons (tVar 2) tNil)) (gName 5))
    (tSeq (tAsg (tOp zMod (tCall (sp_law_cell c) [] E0 (tCons (tVar 0) (tCons (tVar 1) tNil))) (tC (.int 5))) (gName 6))
    (tSeq (tIfS (tTest (tOp rEq (tVar 6) (tC (.int 0))))
      (tRet (tVar 5))
      tNext)
    (tSeq (tIfS (tTest (tOp rEq (tVar 6) (tC (.int 1))))
      (tRet (tCall (sp_law_beside c) [] E0 (tCons (tVar 2) (tCons (tVar 5) (tCons (tVar 3) tNil)))))
      tNext)
    (tSeq (tIfS (tTest (tOp rEq (tVar 6) (tC (.int 2))))
      (tRet (tCall (sp_law_beside c) [] E0 (tCons (tVar 2) (tCons (tVar 3) (tCons (tOp (rIxL c.K) (tLst (tCons (tVar 4) (tCons (tVar 3) tNil))) (tOp zMod (tCall (sp_law_cell c) [] E0 (tCons (tVar 0) (tCons (tOp zAdd (tVar 1) (tC (.int 1))) tNil))) (tC (.int 2)))) tNil)))))
      tNext)
    (tSeq (tIfS (tTest (tOp rEq (tVar 6) (tC (.int 3))))
      (tSeq (tAsg (tCall (sp_law_out c) [] E0 (tCons (tVar 2) (tCons (tOp zMod (tCall (sp_law_cell c) [] E0 (tCons (tVar 0) (tCons (tOp zAdd (tVar 1) (tC (.int 1))) tNil))) (tCB (lLen c.K) (tCons (tOp (rIxT c.K) (tVar 2) (tC (.int 1))) tNil))) tNil))) (gName 7))
    (tSeq (tIfS (tTest (tOp zLe (tCB (rMax c.K) (tCons (tOp (rIxT c.K) (tVar 7) (tC (.int 0))) tNil)) (tC (.int 3))))
      (tRet (tVar 7))
      tNext)
    (tRet (tVar 5))))
      tNext)
    (tRet (tVar 4))))))))))

theorem run_law_drawn_reading (c : Cfg) : ∀ vs H Q E, sp_law_drawn_reading c vs H Q E → t_law_drawn_reading c { nx := fun _ H' => Q .non H', rt := Q } (L2.start sn_law_drawn_reading vs) H := by
  refine fn_runR (ρ0 := fun z => [some (0, .scr z.1), some (0, dat z.2.1), some (0, pd (hallOf z.2.2.1 z.2.2.2) [dat z.2.2.2, dat z.2.2.1]), none, none, none, none, none, none, none]) (fun _ => rfl) (fun _ => Nat.le_of_ble_eq_true rfl) ?_
  rintro ⟨ns, k, sz, known⟩ ⟨hk, G⟩
  dsimp only at hk G ⊢
  have hp := hallOf_ok G
  have P := plain_ok G
  have psz : ∀ x ∈ (plainR sz known).1, x ≤ 3 := fun x hx => ((all_small sz G.sm).1 x hx).2
  have P1 := point_ok hp
  have P0 := none_ok hp
  have hpl : ∀ ρ : Rho, ρ[2]? = some (some (0, pd (hallOf sz known) [dat known, dat sz])) → TX c (tCall (sp_law_reading_of c) [] E0 (tCons (tVar 2) tNil)) ρ (plainR sz known) := fun ρ q => tx_call (sz, known) (ea_cons (px_var q) ea_nil) G
  have hbs : ∀ (ρ : Rho) (ta tb : TE) (one other : ReadT), ρ[2]? = some (some (0, pd (hallOf sz known) [dat known, dat sz])) → TX c ta ρ one → TX c tb ρ other → ReadOk (hallOf sz known) one.1 one.2 → ReadOk (hallOf sz known) other.1 other.2 → TX c (tCall (sp_law_beside c) [] E0 (tCons (tVar 2) (tCons ta (tCons tb tNil)))) ρ ((besideC one.1 other.1, besideM (hallOf sz known) one other) : ReadT) := fun ρ ta tb one other q ha hb R S => tx_call (hallOf sz known, [dat known, dat sz], one, other) (ea_cons (px_var q) (tea_cons ha (tea_cons hb tea_nil))) ⟨hp, R, S⟩
  generalize plainR sz known = plain at P psz hpl
  generalize hallOf sz known = h at hp P P1 P0 hpl hbs
  generalize [dat known, dat sz] = r at hpl hbs
  obtain ⟨⟨hr0, hr1, he0, he1⟩, _, ht, _, _⟩ := hall_parts hp
  have hcell : ∀ (ρ : Rho) (i : Int) (ti : TE), 0 ≤ i → ρ[0]? = some (some (0, .scr ns)) → TX c ti ρ i → TX c (tCall (sp_law_cell c) [] E0 (tCons (tVar 0) (tCons ti tNil))) ρ (cellV ns i) := fun ρ i ti h0 h1 h2 =>
    tx_call (ns, i) (ea_cons (ex_var h1) (tea_cons h2 tea_nil)) h0
  have bsum : ∀ (one other : ReadT) (m n : Int), ReadOk h one.1 one.2 → ReadOk h other.1 other.2 → (∀ x ∈ one.1, x ≤ m) → (∀ x ∈ other.1, x ≤ n) → m + n ≤ 4 → ReadOk h (besideC one.1 other.1) (besideM h one other) ∧ ∀ x ∈ besideC one.1 other.1, x ≤ 4 := by
    intro one other m n R S h1 h2 hmn
    have lc : one.1.length = other.1.length := R.lc.trans S.lc.symm
    have hs : ∀ b : Int, 0 ≤ b → b < h.r.length → at' one.1 b + at' other.1 b ≤ 4 := fun b b0 b1 => by
      have := h1 _ (at_mem (xs := one.1) b0 (by rw [R.lc]; exact b1))
      have := h2 _ (at_mem (xs := other.1) b0 (by rw [S.lc]; exact b1))
      omega
    refine ⟨beside_ok hp R S fun b b0 b1 => by have := hs b b0 b1; omega, fun x hx => ?_⟩
    obtain ⟨i, hi, e⟩ := List.getElem_of_mem hx
    have hi2 : i < h.r.length := by
      have : (besideC one.1 other.1).length = h.r.length := by unfold besideC; rw [List.length_zipWith, R.lc, S.lc, Nat.min_self]
      omega
    rw [← at_get hi] at e
    rw [← e, besideC_at lc (by omega) (by rw [R.lc]; omega)]
    exact hs _ (by omega) (by omega)
  have p1 : ∀ x ∈ (pointR h).1, x ≤ 1 := fun x hx => by rw [List.eq_of_mem_replicate hx]; decide
  have p0 : ∀ x ∈ (noneR h).1, x ≤ 0 := fun x hx => by rw [List.eq_of_mem_replicate hx]; decide
  apply run_seq
  apply run_setA (pointR h)
  · refine NX.give 1 (nx_tup2 ?_ ?_)
    · refine NX.give 1 (x := List.replicate h.r.length (1 : Int)) ?_
      rw [← map_const]
      apply nx_lcLm h.r (fun _ => (1 : Int))
      · walk_at "ev"
      · exact fun _ => gt_nm
      · intro x hx
        exact TX.nx tx_int
      · omega
      · decide
    · refine NX.give 2 (x := List.replicate h.e.length [(0 : Int)]) ?_
      rw [← map_const]
      apply nx_lcLm h.e (fun _ => [(0 : Int)])
      · walk_at "ev"
      · exact fun _ => gt_nm
      · intro x hx
        exact nx_one tx_int
      · omega
      · decide
  dsimp only [List.set]
  apply run_seq
  apply run_setA (noneR h)
  · refine NX.give 1 (nx_tup2 ?_ ?_)
    · refine NX.give 1 (x := List.replicate h.r.length (0 : Int)) ?_
      rw [← map_const]
      apply nx_lcLm h.r (fun _ => (0 : Int))
      · walk_at "ev"
      · exact fun _ => gt_nm
      · intro x hx
        exact TX.nx tx_int
      · omega
      · decide
    · refine NX.give 2 (x := List.replicate h.e.length ([] : List Int)) ?_
      rw [← map_const]
      apply nx_lcLm h.e (fun _ => ([] : List Int))
      · walk_at "ev"
      · exact fun _ => gt_nm
      · intro x hx
        exact nx_nil
      · omega
      · decide
  dsimp only [List.set]
  apply run_seq
  apply run_setA plain (hpl _ rfl)
  dsimp only [List.set]
  apply run_seq
  apply run_setT
  · apply tx_mod
    · apply hcell
      · exact hk
      · rfl
      · walk_at "ev"
    · walk_at "ev"
    · decide
  dsimp only [List.set]
  generalize cellV ns k % 5 = way
  apply run_seq
  walk_at "if"
  · intro _
    exact run_retT (x := plain) (tx_var rfl) ⟨rfl, plain.1, plain.2, rfl, P, fun x hx => by have := psz x hx; omega⟩
  intro _
  apply run_next
  apply run_seq
  walk_at "if"
  · intro _
    obtain ⟨q1, q2⟩ := bsum plain (pointR h) 3 1 P P1 psz p1 (by decide)
    exact run_retT (hbs _ _ _ plain (pointR h) rfl (tx_var rfl) (tx_var rfl) P P1) ⟨rfl, _, _, rfl, q1, q2⟩
  intro _
  apply run_next
  apply run_seq
  walk_at "if"
  · intro _
    have c0 : 0 ≤ cellV ns (k + 1) % 2 := Int.emod_nonneg _ (by decide)
    have c1 : cellV ns (k + 1) % 2 < 2 := Int.emod_lt_of_pos _ (by decide)
    have hpick : TX c (tOp (rIxL c.K) (tLst (tCons (tVar 4) (tCons (tVar 3) tNil))) (tOp zMod (tCall (sp_law_cell c) [] E0 (tCons (tVar 0) (tCons (tOp zAdd (tVar 1) (tC (.int 1))) tNil))) (tC (.int 2)))) [some (0, .scr ns), some (0, dat k), some (0, pd h r), some (0, Dat.d (pointR h)), some (0, Dat.d (noneR h)), some (0, Dat.d plain), some (0, Dat.d way), none, none, none] (at' [noneR h, pointR h] (cellV ns (k + 1) % 2)) := by
      apply tx_ix
      · exact NX.give 1 (nx_lst (la_tx (tx_var rfl) (la_tx (tx_var rfl) la_nil)) (by show 2 ≤ 100000; decide))
      · apply tx_mod
        · apply hcell
          · show 0 ≤ k + 1; omega
          · rfl
          · walk_at "ev"
        · walk_at "ev"
        · decide
      · exact c0
      · exact c1
    generalize cellV ns (k + 1) % 2 = way2 at c0 c1 hpick
    have hcase : way2 = 0 ∨ way2 = 1 := by omega
    rcases hcase with rfl | rfl
    · obtain ⟨q1, q2⟩ := bsum (pointR h) (noneR h) 1 0 P1 P0 p1 p0 (by decide)
      exact run_retT (hbs _ _ _ (pointR h) (noneR h) rfl (tx_var rfl) hpick P1 P0) ⟨rfl, _, _, rfl, q1, q2⟩
    · obtain ⟨q1, q2⟩ := bsum (pointR h) (pointR h) 1 1 P1 P1 p1 p1 (by decide)
      exact run_retT (hbs _ _ _ (pointR h) (pointR h) rfl (tx_var rfl) hpick P1 P1) ⟨rfl, _, _, rfl, q1, q2⟩
  intro _
  apply run_next
  apply run_seq
  walk_at "if"
  · intro _
    apply run_seq
    apply run_setA ((outC h (cellV ns (k + 1) % (h.r.length : Int)), outM h (cellV ns (k + 1) % (h.r.length : Int))) : ReadT)
    · refine tx_call (h, cellV ns (k + 1) % (h.r.length : Int), r) (ea_cons (px_var rfl) (tea_cons ?_ tea_nil)) hp
      apply tx_mod
      · apply hcell
        · show 0 ≤ k + 1; omega
        · rfl
        · walk_at "ev"
      · walk_at "ev"
      · omega
    dsimp only [List.set]
    generalize cellV ns (k + 1) % (h.r.length : Int) = box
    have lo : (outC h box).length = h.r.length := by unfold outC; rw [List.length_map, List.length_range]
    apply run_seq
    apply run_if (b := decide (maxI (outC h box) ≤ 3))
    · apply ett
      apply bx_le
      · apply tx_maxL
        · exact tx_fst (p := ((outC h box, outM h box) : ReadT)) (tx_var rfl)
        · omega
      · walk_at "ev"
    · intro z
      have z' := of_decide_eq_true z
      exact run_retT (x := ((outC h box, outM h box) : ReadT)) (tx_var rfl) ⟨rfl, _, _, rfl, out_ok hp, fun x hx => by have := maxI_ge x hx; omega⟩
    · intro _
      apply run_next
      exact run_retT (x := plain) (tx_var rfl) ⟨rfl, plain.1, plain.2, rfl, P, fun x hx => by have := psz x hx; omega⟩
  intro _
  apply run_next
  exact run_retT (x := noneR h) (tx_var rfl) ⟨rfl, (noneR h).1, (noneR h).2, rfl, P0, fun x hx => by have := p0 x hx; omega⟩

theorem d_law_drawn_reading {c : Cfg} {mg : Str → Option Value} {base : Heap} (T : Top c mg) (c_law_cell : Callee c mg base "_law_cell" 1 ["script", "k"] (sp_law_cell c)) (c_law_reading_of : Callee c mg base "_law_reading_of" 1 ["parts"] (sp_law_reading_of c)) (c_law_out : Callee c mg base "_law_out" 2 ["parts", "box"] (sp_law_out c)) (c_law_beside : Callee c mg base "_law_beside" 1 ["parts", "one", "other"] (sp_law_beside c)) (f : Addr) (cdv : Value) (A : Around) (outer : List PySem.Env) (s : Shared) (H : Hp) (E : XK) (hr : Room 2 (A.deeper (PyProof.Rows.envOfC "_law_drawn_reading" (defScope s_law_drawn_reading) s.heap.objs.size f cdv))) :
    PSs (bodyCx c mg base sn_law_drawn_reading "_law_drawn_reading" s_law_drawn_reading f cdv A outer s H E) (defBody s_law_drawn_reading) (t_law_drawn_reading c) := by
  have nd := sc_law_drawn_reading.nd
  exact pss_cons (ps_set (i := 3) nd rfl (Or.inl rfl) (pe_tup (pa_cons (pe_lc (own := [("box", 8)]) (g := (gName 8)) (tt := tYes) (wi := (iList c.K (tOp (rIxT c.K) (tVar 2) (tC (.int 1))))) (te := (tC (.int 1))) rfl nd (pi_list (pe_ix ix_tup (pv 2) (pe_int) (fun _ _ => rfl))) (blkOk_by (own := [("box", 8)]) (N := sn_law_drawn_reading) (sc := defScope s_law_drawn_reading) (scope := sx_law_drawn_reading_0) (by decide +kernel)) (fun _ _ _ _ _ => pg_name (i := 8) nd rfl (Or.inl rfl)) (fun _ _ _ _ _ => pts_nil) (fun _ _ _ _ _ => pe_int)) (pa_cons (pe_lc (own := [("arrow", 9)]) (g := (gName 9)) (tt := tYes) (wi := (iList c.K (tOp (rIxT c.K) (tVar 2) (tC (.int 0))))) (te := (tLst (tCons (tC (.int 0)) tNil))) rfl nd (pi_list (pe_ix ix_tup (pv 2) (pe_int) (fun _ _ => rfl))) (blkOk_by (own := [("arrow", 9)]) (N := sn_law_drawn_reading) (sc := defScope s_law_drawn_reading) (scope := sx_law_drawn_reading_1) (by decide +kernel)) (fun _ _ _ _ _ => pg_name (i := 9) nd rfl (Or.inl rfl)) (fun _ _ _ _ _ => pts_nil) (fun _ _ _ _ _ => pe_lst (pa_cons (pe_int) pa_nil))) pa_nil))))
    (pss_cons (ps_set (i := 4) nd rfl (Or.inl rfl) (pe_tup (pa_cons (pe_lc (own := [("box", 8)]) (g := (gName 8)) (tt := tYes) (wi := (iList c.K (tOp (rIxT c.K) (tVar 2) (tC (.int 1))))) (te := (tC (.int 0))) rfl nd (pi_list (pe_ix ix_tup (pv 2) (pe_int) (fun _ _ => rfl))) (blkOk_by (own := [("box", 8)]) (N := sn_law_drawn_reading) (sc := defScope s_law_drawn_reading) (scope := sx_law_drawn_reading_2) (by decide +kernel)) (fun _ _ _ _ _ => pg_name (i := 8) nd rfl (Or.inl rfl)) (fun _ _ _ _ _ => pts_nil) (fun _ _ _ _ _ => pe_int)) (pa_cons (pe_lc (own := [("arrow", 9)]) (g := (gName 9)) (tt := tYes) (wi := (iList c.K (tOp (rIxT c.K) (tVar 2) (tC (.int 0))))) (te := (tLst tNil)) rfl nd (pi_list (pe_ix ix_tup (pv 2) (pe_int) (fun _ _ => rfl))) (blkOk_by (own := [("arrow", 9)]) (N := sn_law_drawn_reading) (sc := defScope s_law_drawn_reading) (scope := sx_law_drawn_reading_3) (by decide +kernel)) (fun _ _ _ _ _ => pg_name (i := 9) nd rfl (Or.inl rfl)) (fun _ _ _ _ _ => pts_nil) (fun _ _ _ _ _ => pe_lst (pa_nil))) pa_nil))))
    (pss_cons (ps_set (i := 5) nd rfl (Or.inl rfl) (pe_callD c_law_reading_of rfl rfl rfl (hr.mono (by decide)) (by rfl) (pa_cons (pv 2) pa_nil)))
    (pss_cons (ps_set (i := 6) nd rfl (Or.inl rfl) (pe_op o_mod (pe_callD c_law_cell rfl rfl rfl (hr.mono (by decide)) (by rfl) (pa_cons (pv 0) (pa_cons (pv 1) pa_nil))) (pe_int)))
    (pss_cons (ps_if (pt_cmpR op_eq (pv 6) (pe_int) (nomark _))
      (pss_one (ps_ret (pv 5)))
      (pss_nil))
    (pss_cons (ps_if (pt_cmpR op_eq (pv 6) (pe_int) (nomark _))
      (pss_one (ps_ret (pe_callD c_law_beside rfl rfl rfl (hr.mono (by decide)) (by rfl) (pa_cons (pv 2) (pa_cons (pv 5) (pa_cons (pv 3) pa_nil))))))
      (pss_nil))
    (pss_cons (ps_if (pt_cmpR op_eq (pv 6) (pe_int) (nomark _))
      (pss_one (ps_ret (pe_callD c_law_beside rfl rfl rfl (hr.mono (by decide)) (by rfl) (pa_cons (pv 2) (pa_cons (pv 3) (pa_cons (pe_ix ix_list (pe_lst (pa_cons (pv 4) (pa_cons (pv 3) pa_nil))) (pe_op o_mod (pe_callD c_law_cell rfl rfl rfl (hr.mono (by decide)) (by rfl) (pa_cons (pv 0) (pa_cons (pe_op o_add (pv 1) (pe_int)) pa_nil))) (pe_int)) (fun _ _ => rfl)) pa_nil))))))
      (pss_nil))
    (pss_cons (ps_if (pt_cmpR op_eq (pv 6) (pe_int) (nomark _))
      (pss_cons (ps_set (i := 7) nd rfl (Or.inl rfl) (pe_callD c_law_out rfl rfl rfl (hr.mono (by decide)) (by rfl) (pa_cons (pv 2) (pa_cons (pe_op o_mod (pe_callD c_law_cell rfl rfl rfl (hr.mono (by decide)) (by rfl) (pa_cons (pv 0) (pa_cons (pe_op o_add (pv 1) (pe_int)) pa_nil))) (pe_callB c_len (by rfl) T.b_len PySem.boot_len (pa_cons (pe_ix ix_tup (pv 2) (pe_int) (fun _ _ => rfl)) pa_nil))) pa_nil))))
    (pss_cons (ps_if (pt_cmpR o_le (pe_callB (cr_max rfl) (by rfl) T.b_max (by decide +kernel) (pa_cons (pe_ix ix_tup (pv 7) (pe_int) (fun _ _ => rfl)) pa_nil)) (pe_int) (nomark _))
      (pss_one (ps_ret (pv 7)))
      (pss_nil))
    (pss_one (ps_ret (pv 5)))))
      (pss_nil))
    (pss_one (ps_ret (pv 4))))))))))
theorem k_law_drawn_reading {c : Cfg} {mg : Str → Option Value} {base : Heap} (T : Top c mg) (c_law_cell : Callee c mg base "_law_cell" 1 ["script", "k"] (sp_law_cell c)) (c_law_reading_of : Callee c mg base "_law_reading_of" 1 ["parts"] (sp_law_reading_of c)) (c_law_out : Callee c mg base "_law_out" 2 ["parts", "box"] (sp_law_out c)) (c_law_beside : Callee c mg base "_law_beside" 1 ["parts", "one", "other"] (sp_law_beside c)) : Callee c mg base "_law_drawn_reading" 3 ["script", "k", "parts"] (sp_law_drawn_reading c) :=
  callee_of T.d_law_drawn_reading sc_law_drawn_reading (len_law_drawn_reading c) (fun _ _ _ _ _ _ us hl => match us, hl with | [_, _, _], _ => rfl) (fun f cdv A outer s H E hr => d_law_drawn_reading T c_law_cell c_law_reading_of c_law_out c_law_beside f cdv A outer s H E hr) (run_law_drawn_reading c)
def sp_law_good (c : Cfg) : Sp := spF c (ι := (HallT × List D) × List Int × List (List Int)) (fun x => [pd x.1.1 x.1.2, dat x.2.1, dat x.2.2]) (fun x => HallOk x.1.1 ∧ x.2.1.length ≤ 1000) 0 (fun x => .bl (isReadB x.1.1 x.2.1 x.2.2))
theorem len_law_good (c : Cfg) : ∀ vs H Q E, sp_law_good c vs H Q E → vs.length = 3 := spF_len fun _ => rfl

def sn_law_good : List Str := ["parts", "counts", "maps", "arrow", "one", "other", "rest", "made", "row", "count", "x", "thing"]
def sx_law_good_0 : Scope := { kind := .function, names := [(".0", .local), ("count", .local)], isGenerator := false, isCoroutine := false, more := [] }
def sx_law_good_1 : Scope := { kind := .function, names := [(".0", .local), ("x", .local), ("counts", .free), ("other", .free)], isGenerator := false, isCoroutine := false, more := [] }
def sxr_law_good_1 : Scope := { kind := .function, names := [(".0", .local), ("x", .local), ("counts", .cell), ("other", .cell)], isGenerator := false, isCoroutine := false, more := [] }
def sx_law_good_2 : Scope := { kind := .function, names := [(".0", .local), ("thing", .local), ("maps", .free), ("other", .free)], isGenerator := false, isCoroutine := false, more := [] }
def sxr_law_good_2 : Scope := { kind := .function, names := [(".0", .local), ("thing", .local), ("maps", .cell), ("other", .cell)], isGenerator := false, isCoroutine := false, more := [] }
theorem sc_law_good : FnScope sn_law_good ["parts", "counts", "maps"] (defScope s_law_good) := ⟨rfl, rfl, rfl, by decide +kernel, rfl, by decide +kernel, by decide +kernel⟩
def t_law_good (c : Cfg) : TS :=
  (tSeq (tIfS (tOr (tTest (tOp rNe (tCB (lLen c.K) (tCons (tVar 1) tNil)) (tCB (lLen c.K) (tCons (tOp (rIxT c.K) (tVar 0) (tC (.int 1))) tNil)))) (tTest (tOp rNe (tCB (lLen c.K) (tCons (tVar 2) tNil)) (tCB (lLen c.K) (tCons (tOp (rIxT c.K) (tVar 0) (tC (.int 0))) tNil)))))
      (tRet (tC (.bl false)))
      tNext)
    (tSeq (tIfS (tTest (tOp zGt (tCB (lLen c.K) (tCons (tLc (iList c.K (tVar 1)) (gName 9) (tNot (tTest (tChain zLe zLe (tC (.int 0)) (tVar 9) (tC (.int 40))))) (tVar 9) [9]) tNil)) (tC (.int 0))))
      (tRet (tC (.bl false)))
      tNext)
    (tSeq (tFor (iRng1 (tCons (tCB (lLen c.K) (tCons (tVar 2) tNil)) tNil)) (gName 3)
      (tSeq (tAsg (tOp (rIxL c.K) (tOp (rIxT c.K) (tVar 0) (tC (.int 0))) (tVar 3)) (gTup c.K 2 (gCons (gName 4) (gCons (gName 5) gNil))))
    (tSeq (tIfS (tTest (tOp rNe (tCB (lLen c.K) (tCons (tOp (rIxL c.K) (tVar 2) (tVar 3)) tNil)) (tOp (rIxL c.K) (tVar 1) (tVar 4))))
      (tRet (tC (.bl false)))
      tNext)
    (tIfS (tTest (tOp zGt (tCB (lLen c.K) (tCons (tLc (iList c.K (tOp (rIxL c.K) (tVar 2) (tVar 3))) (gName 10) (tNot (tTest (tChain zLe zLt (tC (.int 0)) (tVar 10) (tOp (rIxL c.K) (tVar 1) (tVar 5))))) (tVar 10) [10]) tNil)) (tC (.int 0))))
      (tRet (tC (.bl false)))
      tNext))))
    (tSeq (tFor (iList c.K (tOp (rIxT c.K) (tVar 0) (tC (.int 1)))) (gName 6)
      (tIfS (tTest (tOp (rNeD c.K) (tOp (rIxL c.K) (tVar 2) (tVar 6)) (tLstRg (tRg1 (tCB (lLen c.K) (tCons (tOp (rIxL c.K) (tVar 2) (tVar 6)) tNil))))))
      (tRet (tC (.bl false)))
      tNext))
    (tSeq (tFor (iRng1 (tCons (tCB (lLen c.K) (tCons (tVar 2) tNil)) tNil)) (gName 4)
      (tFor (iRng1 (tCons (tCB (lLen c.K) (tCons (tVar 2) tNil)) tNil)) (gName 5)
      (tSeq (tAsg (tOp (rIxL c.K) (tOp (rIxL c.K) (tOp (rIxT c.K) (tVar 0) (tC (.int 2))) (tVar 4)) (tVar 5)) (gName 7))
    (tIfS (tTest (tOp zGe (tVar 7) (tC (.int 0))))
      (tSeq (tAsg (tLc (iList c.K (tOp (rIxL c.K) (tVar 2) (tVar 4))) (gName 11) tYes (tOp (rIxL c.K) (tOp (rIxL c.K) (tVar 2) (tVar 5)) (tVar 11)) [11]) (gName 8))
    (tIfS (tTest (tOp (rNeD c.K) (tVar 8) (tOp (rIxL c.K) (tVar 2) (tVar 7))))
      (tRet (tC (.bl false)))
      tNext))
      tNext))))
    (tRet (tC (.bl true))))))))

theorem run_law_good (c : Cfg) : ∀ vs H Q E, sp_law_good c vs H Q E → t_law_good c { nx := fun _ H' => Q .non H', rt := Q } (L2.start sn_law_good vs) H := by
  refine fn_run (ρ0 := fun x => [some (0, pd x.1.1 x.1.2), some (0, dat x.2.1), some (0, dat x.2.2), none, none, none, none, none, none, none, none, none]) (fun _ => rfl) (fun _ => Nat.le_of_ble_eq_true rfl) ?_
  rintro ⟨⟨h, r⟩, cs, ms⟩ ⟨hp, lcb⟩
  dsimp only at hp lcb ⊢
  have hs := hall_size hp
  obtain ⟨⟨hr0, hr1, he0, he1⟩, _, ht, _, _⟩ := hall_parts hp
  have hl := tr_len ht
  have cnt : ∀ (q : Int → Bool) (l : List Int), decide ((0 : Int) < (((l.filter fun x => !q x).map fun x => x).length : Int)) = !l.all q := fun q l => by
    rw [List.length_map, Bool.eq_iff_iff, decide_eq_true_eq, Bool.not_eq_true', List.all_eq_false]
    constructor
    · intro w
      have : (l.filter fun x => !q x) ≠ [] := fun e => by rw [e] at w; simp at w
      obtain ⟨x, hx⟩ := List.exists_mem_of_ne_nil _ this
      obtain ⟨h1, h2⟩ := List.mem_filter.mp hx
      exact ⟨x, h1, by simpa using h2⟩
    · rintro ⟨x, h1, h2⟩
      have : x ∈ l.filter fun x => !q x := List.mem_filter.mpr ⟨h1, by simpa using h2⟩
      have := List.length_pos_of_mem this
      omega
  apply run_seq
  walk_at "if"
  · intro q
    walk_at "retB"
    exact ⟨rfl, by unfold isReadB; rw [if_pos q]⟩
  intro q
  have q' := q
  simp only [Bool.or_eq_false_iff, Bool.not_eq_false', decide_eq_true_eq] at q'
  have lc : cs.length = h.r.length := by omega
  have lm : ms.length = h.e.length := by omega
  have hq : ¬ (!decide ((cs.length : Int) = (h.r.length : Int)) || !decide ((ms.length : Int) = (h.e.length : Int))) = true := by rw [q]; decide
  apply run_next
  apply run_seq
  apply run_if (b := !cs.all cntOk)
  · rw [← cnt]
    apply ett
    apply bx_gt
    · apply tx_len
      refine NX.give 1 (x := (cs.filter fun x => !cntOk x).map fun x => x) ?_
      apply nx_lcL cs (fun x => !cntOk x) (fun x => x)
      · walk_at "ev"
      · exact fun _ => gt_nm
      · intro x hx
        have e : (!cntOk x) = !(decide (0 ≤ x) && decide (x ≤ 40)) := by
          unfold cntOk
          rw [Bool.eq_iff_iff]
          simp only [Bool.not_eq_true', Bool.not_eq_false', Bool.or_eq_true, Bool.and_eq_false_iff, decide_eq_true_eq, decide_eq_false_iff_not, Bool.not_not]
          omega
        rw [e]
        apply et_not
        walk_at "ev"
      · intro x hx _
        exact TX.nx (tx_var rfl)
      · omega
      · decide
    · walk_at "ev"
  · intro z
    walk_at "retB"
    refine ⟨rfl, ?_⟩
    unfold isReadB
    rw [if_neg hq, if_pos (by simpa using z)]
  intro z1
  have w1 : cs.all cntOk = true := by simpa using z1
  have hc : ¬ cs.all cntOk = false := by rw [w1]; decide
  have hcn : ∀ x ∈ cs, 0 ≤ x ∧ x ≤ 40 := fun x hx => by
    have := List.all_eq_true.mp w1 x hx
    unfold cntOk at this
    simp only [Bool.not_eq_true', Bool.or_eq_false_iff, decide_eq_false_iff_not] at this
    omega
  apply run_next
  apply run_seq
  apply run_allR (m := ms.length) (fun i => !listRight h cs ms i) (fun ρ' => ∃ a3 a4 a5, ρ' = [some (0, pd h r), some (0, dat cs), some (0, dat ms), a3, a4, a5, none, none, none, none, none, none])
  · walk_at "ev"
  · rfl
  · omega
  · exact ⟨_, _, _, rfl⟩
  · rintro i ρ' hi ⟨a3, a4, a5, rfl⟩
    obtain ⟨⟨e0, e1⟩, e2, e3⟩ := ends_of hp (i := (i : Int)) (by omega) (by omega)
    dsimp only [List.set]
    apply run_seq
    apply run_asg2 (p := at' h.e (i : Int))
    · walk_at "ev"
    dsimp only [List.set]
    apply run_seq
    walk_at "if"
    · intro q
      have hb : listRight h cs ms i = false := by
        unfold listRight
        simp only [Bool.not_eq_true', decide_eq_false_iff_not] at q
        rw [decide_eq_false q]
        rfl
      walk_at "retB"
      refine ⟨by rw [hb]; rfl, fun w => ⟨rfl, ?_⟩⟩
      simp only [Bool.not_not] at w
      unfold isReadB
      rw [if_neg hq, if_neg hc, if_pos (show listsRight h cs ms = false from w)]
    intro q
    simp only [Bool.not_eq_false', decide_eq_true_eq] at q
    apply run_next
    have hrow : (at' ms (i : Int)).length ≤ 40 := by
      have := hcn _ (at_mem (xs := cs) e0 (by omega))
      omega
    apply run_if (b := !(at' ms (i : Int)).all fun x => !(decide (x < 0) || decide (at' cs (at' h.e (i : Int)).2 ≤ x)))
    · rw [← cnt]
      apply ett
      apply bx_gt
      · apply tx_len
        refine NX.give 1 (x := ((at' ms (i : Int)).filter fun x => !!(decide (x < 0) || decide (at' cs (at' h.e (i : Int)).2 ≤ x))).map fun x => x) ?_
        apply nx_lcL (at' ms (i : Int)) (fun x => !!(decide (x < 0) || decide (at' cs (at' h.e (i : Int)).2 ≤ x))) (fun x => x)
        · walk_at "ev"
        · exact fun _ => gt_nm
        · intro x hx
          have e : (!!(decide (x < 0) || decide (at' cs (at' h.e (i : Int)).2 ≤ x))) = !(decide (0 ≤ x) && decide (x < at' cs (at' h.e (i : Int)).2)) := by
            rw [Bool.eq_iff_iff]
            simp only [Bool.not_eq_true', Bool.not_eq_false', Bool.or_eq_true, Bool.and_eq_false_iff, decide_eq_true_eq, decide_eq_false_iff_not, Bool.not_not]
            omega
          rw [e]
          apply et_not
          walk_at "ev"
        · intro x hx _
          exact TX.nx (tx_var rfl)
        · omega
        · decide
      · walk_at "ev"
    · intro z
      have hb : listRight h cs ms i = false := by
        unfold listRight
        rw [show ((at' ms (i : Int)).all fun x => !(decide (x < 0) || decide (at' cs (at' h.e (i : Int)).2 ≤ x))) = false by simpa using z, Bool.and_false]
      walk_at "retB"
      refine ⟨by rw [hb]; rfl, fun w => ⟨rfl, ?_⟩⟩
      simp only [Bool.not_not] at w
      unfold isReadB
      rw [if_neg hq, if_neg hc, if_pos (show listsRight h cs ms = false from w)]
    · intro z
      have hb : listRight h cs ms i = true := by
        unfold listRight
        rw [show ((at' ms (i : Int)).all fun x => !(decide (x < 0) || decide (at' cs (at' h.e (i : Int)).2 ≤ x))) = true by simpa using z, decide_eq_true q]
        rfl
      exact run_next ⟨by rw [hb]; rfl, _, _, _, rfl⟩
  rintro ρ' w ⟨a3, a4, a5, rfl⟩
  simp only [Bool.not_not] at w
  have hlr : listsRight h cs ms = true := w
  have hl2 : ¬ listsRight h cs ms = false := by rw [hlr]; decide
  have h3 : ∀ i : Int, 0 ≤ i → i < h.e.length → ((at' ms i).length : Int) = at' cs (at' h.e i).1 ∧ ∀ x ∈ at' ms i, 0 ≤ x ∧ x < at' cs (at' h.e i).2 := fun i i0 i1 => by
    unfold listsRight at hlr
    rw [DL.all_range] at hlr
    obtain ⟨k, rfl⟩ := Int.eq_ofNat_of_zero_le i0
    have := hlr k (by omega)
    unfold listRight at this
    rw [Bool.and_eq_true, decide_eq_true_eq, List.all_eq_true] at this
    refine ⟨this.1, fun x hx => ?_⟩
    have w := this.2 x hx
    simp only [Bool.not_eq_true', Bool.or_eq_false_iff, decide_eq_false_iff_not] at w
    have w2 := w.1
    have w3 := w.2
    exact ⟨by omega, by show x < at' cs (at' h.e ((k : Nat) : Int)).2; omega⟩
  have hrow : ∀ i : Int, 0 ≤ i → i < h.e.length → (at' ms i).length ≤ 40 := fun i i0 i1 => by
    have w := (h3 i i0 i1).1
    obtain ⟨⟨e0, e1⟩, _⟩ := ends_of hp i0 i1
    have := hcn _ (at_mem (xs := cs) e0 (by omega))
    omega
  have hrin : ∀ x ∈ h.r, (0 ≤ x ∧ x < h.e.length) := fun x hx => by
    obtain ⟨k, hk, e⟩ := List.getElem_of_mem hx
    obtain ⟨⟨r0, r1⟩, _⟩ := rest_of hp (b := (k : Int)) (by omega) (by omega)
    rw [at_get hk, e] at r0 r1
    exact ⟨r0, r1⟩
  have hre : (h.r.all fun x => !!eqT (at' ms x) (rangeI (at' ms x).length)) = restsRead h cs ms := by
    unfold restsRead
    rw [Bool.eq_iff_iff, List.all_eq_true, DL.all_range]
    have key : ∀ k : Nat, k < h.r.length → ((at' ms (at' h.r (k : Int))).length = (at' cs (k : Int)).toNat) := fun k hk => by
      obtain ⟨⟨r0, r1⟩, r2, _⟩ := rest_of hp (b := (k : Int)) (by omega) (by omega)
      have := (h3 _ r0 r1).1
      rw [r2] at this
      dsimp only at this
      omega
    constructor
    · intro w k hk
      have := w _ (at_mem (xs := h.r) (i := (k : Int)) (by omega) (by omega))
      rw [Bool.not_not, key k (by omega)] at this
      exact this
    · intro w x hx
      obtain ⟨k, hk, e⟩ := List.getElem_of_mem hx
      have := w k (by omega)
      rw [Bool.not_not, ← e, ← at_get hk, key k hk]
      exact this
  apply run_seq
  apply run_allL h.r (fun x => !eqT (at' ms x) (rangeI (at' ms x).length)) (fun ρ' => ∃ a6, ρ' = [some (0, pd h r), some (0, dat cs), some (0, dat ms), a3, a4, a5, a6, none, none, none, none, none])
  · walk_at "ev"
  · exact fun _ => gt_nm
  · exact ⟨_, rfl⟩
  · rintro x ρ' hx ⟨a6, rfl⟩
    obtain ⟨x0, x1⟩ := hrin x hx
    have hx40 := hrow x x0 x1
    dsimp only [List.set]
    apply run_if
    · apply ett
      apply bx_neT
      · exact tx_ix (xs := ms) (tx_var rfl) (tx_var rfl) x0 (by omega)
      · refine NX.give 1 (nx_lstRg (m := (at' ms x).length) (i := ((at' ms x).length : Int)) (tx_len (tx_ix (xs := ms) (tx_var rfl) (tx_var rfl) x0 (by omega))) rfl (by omega))
      · decide
    · intro y
      walk_at "retB"
      refine ⟨y, fun w => ⟨rfl, ?_⟩⟩
      rw [hre] at w
      unfold isReadB
      rw [if_neg hq, if_neg hc, if_neg hl2, if_pos w]
    · intro y
      exact run_next ⟨y, _, rfl⟩
  rintro ρ' w2 ⟨a6, rfl⟩
  rw [hre] at w2
  have hr2 : ¬ restsRead h cs ms = false := by rw [w2]; decide
  have hfin : isReadB h cs ms = compsRead h ms := by
    unfold isReadB
    rw [if_neg hq, if_neg hc, if_neg hl2, if_neg hr2]
  apply run_seq
  apply run_allR (m := ms.length) (fun i => !(List.range ms.length).all fun j => twoRead h ms i j) (fun ρ' => ∃ a4 a5 a7 a8, ρ' = [some (0, pd h r), some (0, dat cs), some (0, dat ms), a3, a4, a5, a6, a7, a8, none, none, none])
  · walk_at "ev"
  · rfl
  · omega
  · exact ⟨_, _, _, _, rfl⟩
  · rintro i ρ' hi ⟨a4, a5, a7, a8, rfl⟩
    dsimp only [List.set]
    apply run_allR (m := ms.length) (fun j => !twoRead h ms i j) (fun ρ' => ∃ a5 a7 a8, ρ' = [some (0, pd h r), some (0, dat cs), some (0, dat ms), a3, some (0, Dat.d (i : Int)), a5, a6, a7, a8, none, none, none])
    · walk_at "ev"
    · rfl
    · omega
    · exact ⟨_, _, _, rfl⟩
    · rintro j ρ' hj ⟨a5, a7, a8, rfl⟩
      have htr := tr_row ht (i := (i : Int)) (by omega) (by omega)
      have hri := hrow (i : Int) (by omega) (by omega)
      dsimp only [List.set]
      apply run_seq
      apply run_setT
      · walk_at "ev"
      dsimp only [List.set]
      apply run_if
      · walk_at "ev"
      · intro m0
        have m0' := of_decide_eq_true m0
        obtain ⟨t1, t2, t3⟩ := tab_of hp (i := (i : Int)) (j := (j : Int)) (by omega) (by omega) (by omega) (by omega) m0'
        apply run_seq
        apply run_setA (compRow ms (i : Int) (j : Int))
        · refine NX.give 1 (x := compRow ms (i : Int) (j : Int)) ?_
          unfold compRow
          apply nx_lcLm (at' ms (i : Int)) (fun x => at' (at' ms (j : Int)) x)
          · walk_at "ev"
          · exact fun _ => gt_nm
          · intro x hx
            have hx2 := (h3 (i : Int) (by omega) (by omega)).2 x hx
            have hj2 := (h3 (j : Int) (by omega) (by omega)).1
            rw [← t1] at hj2
            apply TX.nx
            walk_at "ev"
          · omega
          · decide
        dsimp only [List.set]
        have htw : twoRead h ms i j = eqT (compRow ms (i : Int) (j : Int)) (at' ms (at' (at' h.t (i : Int)) (j : Int))) := by
          unfold twoRead
          rw [m0, Bool.true_and, Bool.not_not]
        apply run_if
        · walk_at "ev"
        · intro y
          walk_at "retB"
          rw [← htw] at y
          refine ⟨y, fun w => ⟨by simp only [Bool.not_not] at w; rw [w]; rfl, fun w3 => ⟨rfl, ?_⟩⟩⟩
          rw [hfin]
          simp only [Bool.not_not] at w3
          unfold compsRead
          rw [w3]
        · intro y
          rw [← htw] at y
          exact run_next ⟨y, _, _, _, rfl⟩
      · intro m0
        refine run_next ⟨?_, _, _, _, rfl⟩
        unfold twoRead
        rw [m0]
        rfl
    · rintro ρ' w3 ⟨a5, a7, a8, rfl⟩
      simp only [Bool.not_not] at w3
      exact ⟨by rw [w3]; rfl, _, _, _, _, rfl⟩
  · rintro ρ' w3 ⟨a4, a5, a7, a8, rfl⟩
    walk_at "retB"
    refine ⟨rfl, ?_⟩
    simp only [Bool.not_not] at w3
    rw [hfin]
    unfold compsRead
    rw [w3]

theorem d_law_good {c : Cfg} {mg : Str → Option Value} {base : Heap} (T : Top c mg) (f : Addr) (cdv : Value) (A : Around) (outer : List PySem.Env) (s : Shared) (H : Hp) (E : XK) (hr : Room 0 (A.deeper (PyProof.Rows.envOfC "_law_good" (defScope s_law_good) s.heap.objs.size f cdv))) :
    PSs (bodyCx c mg base sn_law_good "_law_good" s_law_good f cdv A outer s H E) (defBody s_law_good) (t_law_good c) := by
  have nd := sc_law_good.nd
  exact pss_cons (ps_if (PW.pt (pw_or (pt_cmpR op_ne (pe_callB c_len (by rfl) T.b_len PySem.boot_len (pa_cons (pv 1) pa_nil)) (pe_callB c_len (by rfl) T.b_len PySem.boot_len (pa_cons (pe_ix ix_tup (pv 0) (pe_int) (fun _ _ => rfl)) pa_nil)) (nomark _)) (pw_or1 (pt_cmpR op_ne (pe_callB c_len (by rfl) T.b_len PySem.boot_len (pa_cons (pv 2) pa_nil)) (pe_callB c_len (by rfl) T.b_len PySem.boot_len (pa_cons (pe_ix ix_tup (pv 0) (pe_int) (fun _ _ => rfl)) pa_nil)) (nomark _)))))
      (pss_one (ps_ret (pe_bl)))
      (pss_nil))
    (pss_cons (ps_if (pt_cmpR o_gt (pe_callB c_len (by rfl) T.b_len PySem.boot_len (pa_cons (pe_lc (own := [("count", 9)]) (g := (gName 9)) (tt := (tNot (tTest (tChain zLe zLe (tC (.int 0)) (tVar 9) (tC (.int 40)))))) (wi := (iList c.K (tVar 1))) (te := (tVar 9)) rfl nd (pi_list (pv 1)) (blkOk_by (own := [("count", 9)]) (N := sn_law_good) (sc := defScope s_law_good) (scope := sx_law_good_0) (by decide +kernel)) (fun _ _ _ _ _ => pg_name (i := 9) nd rfl (Or.inl rfl)) (fun _ _ _ _ _ => pts_one (pt_not (pt_chain o_le o_le (pe_int) (pv 9) (pe_int)))) (fun _ _ _ _ _ => pv 9)) pa_nil)) (pe_int) (nomark _))
      (pss_one (ps_ret (pe_bl)))
      (pss_nil))
    (pss_cons (ps_for PassesOwn.never rfl (pi_range1 (by rfl) T.b_range (pa_cons (pe_callB c_len (by rfl) T.b_len PySem.boot_len (pa_cons (pv 2) pa_nil)) pa_nil)) (pg_name (i := 3) nd rfl (Or.inl rfl))
      (pss_cons (ps_asg (pe_ix ix_list (pe_ix ix_tup (pv 0) (pe_int) (fun _ _ => rfl)) (pv 3) (fun _ _ => rfl)) (pg_tup rfl (pgs_cons (pg_name (i := 4) nd rfl (Or.inl rfl)) (pgs_cons (pg_name (i := 5) nd rfl (Or.inr rfl)) pgs_nil))))
    (pss_cons (ps_if (pt_cmpR op_ne (pe_callB c_len (by rfl) T.b_len PySem.boot_len (pa_cons (pe_ix ix_list (pv 2) (pv 3) (fun _ _ => rfl)) pa_nil)) (pe_ix ix_list (pv 1) (pv 4) (fun _ _ => rfl)) (nomark _))
      (pss_one (ps_ret (pe_bl)))
      (pss_nil))
    (pss_one (ps_if (pt_cmpR o_gt (pe_callB c_len (by rfl) T.b_len PySem.boot_len (pa_cons (pe_lc (own := [("x", 10)]) (g := (gName 10)) (tt := (tNot (tTest (tChain zLe zLt (tC (.int 0)) (tVar 10) (tOp (rIxL c.K) (tVar 1) (tVar 5)))))) (wi := (iList c.K (tOp (rIxL c.K) (tVar 2) (tVar 3)))) (te := (tVar 10)) rfl nd (pi_list (pe_ix ix_list (pv 2) (pv 3) (fun _ _ => rfl))) (blkOk_by (own := [("x", 10)]) (N := sn_law_good) (sc := defScope s_law_good) (scope := sx_law_good_1) (by decide +kernel)) (fun _ _ _ _ _ => pg_name (i := 10) nd rfl (Or.inl rfl)) (fun _ _ _ _ _ => pts_one (pt_not (pt_chain o_le o_lt (pe_int) (pv 10) (pe_ix ix_list (pv 1) (pv 5) (fun _ _ => rfl))))) (fun _ _ _ _ _ => pv 10)) pa_nil)) (pe_int) (nomark _))
      (pss_one (ps_ret (pe_bl)))
      (pss_nil))))))
    (pss_cons (ps_for PassesOwn.never rfl (pi_list (pe_ix ix_tup (pv 0) (pe_int) (fun _ _ => rfl))) (pg_name (i := 6) nd rfl (Or.inl rfl))
      (pss_one (ps_if (pt_cmpR (op_neD hr.units) (pe_ix ix_list (pv 2) (pv 6) (fun _ _ => rfl)) (pe_listRg rfl (by rfl) T.b_list (prg_1 (by rfl) T.b_range (pe_callB c_len (by rfl) T.b_len PySem.boot_len (pa_cons (pe_ix ix_list (pv 2) (pv 6) (fun _ _ => rfl)) pa_nil)))) (nomark _))
      (pss_one (ps_ret (pe_bl)))
      (pss_nil))))
    (pss_cons (ps_for PassesOwn.never rfl (pi_range1 (by rfl) T.b_range (pa_cons (pe_callB c_len (by rfl) T.b_len PySem.boot_len (pa_cons (pv 2) pa_nil)) pa_nil)) (pg_name (i := 4) nd rfl (Or.inl rfl))
      (pss_one (ps_for PassesOwn.never rfl (pi_range1 (by rfl) T.b_range (pa_cons (pe_callB c_len (by rfl) T.b_len PySem.boot_len (pa_cons (pv 2) pa_nil)) pa_nil)) (pg_name (i := 5) nd rfl (Or.inr rfl))
      (pss_cons (ps_set (i := 7) nd rfl (Or.inl rfl) (pe_ix ix_list (pe_ix ix_list (pe_ix ix_tup (pv 0) (pe_int) (fun _ _ => rfl)) (pv 4) (fun _ _ => rfl)) (pv 5) (fun _ _ => rfl)))
    (pss_one (ps_if (pt_cmpR o_ge (pv 7) (pe_int) (nomark _))
      (pss_cons (ps_setLc (i := 8) (own := [("thing", 11)]) (g := (gName 11)) (tt := tYes) (wi := (iList c.K (tOp (rIxL c.K) (tVar 2) (tVar 4)))) (te := (tOp (rIxL c.K) (tOp (rIxL c.K) (tVar 2) (tVar 5)) (tVar 11))) rfl nd rfl rfl (sw_true rfl rfl rfl (by decide +kernel)) (pi_list (pe_ix ix_list (pv 2) (pv 4) (fun _ _ => rfl))) (blkOk_by (own := [("thing", 11)]) (N := sn_law_good) (sc := defScope s_law_good) (scope := sx_law_good_2) (by decide +kernel)) (fun _ _ _ _ _ => pg_name (i := 11) nd rfl (Or.inl rfl)) (fun _ _ _ _ _ => pts_nil) (fun _ _ _ _ _ => pe_ix ix_list (pe_ix ix_list (pv 2) (pv 5) (fun _ _ => rfl)) (pv 11) (fun _ _ => rfl)))
    (pss_one (ps_if (pt_cmpR (op_neD hr.units) (pv 8) (pe_ix ix_list (pv 2) (pv 7) (fun _ _ => rfl)) (nomark _))
      (pss_one (ps_ret (pe_bl)))
      (pss_nil))))
      (pss_nil)))))))
    (pss_one (ps_ret (pe_bl)))))))
theorem k_law_good {c : Cfg} {mg : Str → Option Value} {base : Heap} (T : Top c mg) : Callee c mg base "_law_good" 1 ["parts", "counts", "maps"] (sp_law_good c) :=
  callee_of T.d_law_good sc_law_good (len_law_good c) (fun _ _ _ _ _ _ us hl => match us, hl with | [_, _, _], _ => rfl) (fun f cdv A outer s H E hr => d_law_good T f cdv A outer s H E hr) (run_law_good c)
def sp_law_spoilt (c : Cfg) : Sp := spMv2 c (ι := List Int × List (List Int) × Int × Int × Int) 1 2 (fun z => dat z.1) (fun z => dat z.2.1) (fun z => [dat z.2.2.1, dat z.2.2.2.1, dat z.2.2.2.2]) (fun z => (0 < z.1.length ∧ z.1.length ≤ 1000) ∧ (0 < z.2.1.length ∧ z.2.1.length ≤ 1000) ∧ ∀ r ∈ z.2.1, r.length ≤ 1000) (fun z e1 e2 => ∃ (cs : List Int) (ms : List (List Int)), e1 = dat cs ∧ e2 = dat ms ∧ cs.length ≤ z.1.length + 1 ∧ ms.length ≤ z.2.1.length + 1)
theorem len_law_spoilt (c : Cfg) : ∀ vs H Q E, sp_law_spoilt c vs H Q E → vs.length = 5 := spMv2_len fun _ => rfl

def sn_law_spoilt : List Str := ["counts", "maps", "way", "cell", "number", "at", "box"]
theorem sc_law_spoilt : FnScope sn_law_spoilt ["counts", "maps", "way", "cell", "number"] (defScope s_law_spoilt) := ⟨rfl, rfl, rfl, by decide +kernel, rfl, by decide +kernel, by decide +kernel⟩
def t_law_spoilt (c : Cfg) : TS :=
  (tSeq (tAsg (tOp zMod (tVar 3) (tCB (lLen c.K) (tCons (tVar 1) tNil))) (gName 5))
    (tSeq (tAsg (tOp zMod (tVar 3) (tCB (lLen c.K) (tCons (tVar 0) tNil))) (gName 6))
    (tSeq (tIfS (tTest (tOp rEq (tVar 2) (tC (.int 1))))
      (tAsg (tOp (rIxL c.K) (tLst (tCons (tUn zNeg (tC (.int 1))) (tCons (tOp zAdd (tOp (rIxL c.K) (tVar 0) (tVar 6)) (tC (.int 1))) (tCons (tC (.int 41)) (tCons (tOp zMod (tVar 4) (tC (.int 5))) tNil))))) (tOp zMod (tVar 4) (tC (.int 4)))) (gSub (tVar 0) (tVar 6) rSetL))
      tNext)
    (tSeq (tIfS (tTest (tOp rEq (tVar 2) (tC (.int 2))))
      (tDrop (tBM c.K "list" rPopAt (tVar 0) (tCons (tVar 6) tNil)))
      tNext)
    (tSeq (tIfS (tTest (tOp rEq (tVar 2) (tC (.int 3))))
      (tAsg (tSl (rSlL c.K) (tOp (rIxL c.K) (tVar 1) (tVar 5)) (tPart (tC (.int 1))) tNoPart) (gSub (tVar 1) (tVar 5) rSetL))
      tNext)
    (tSeq (tIfS (tTest (tOp rEq (tVar 2) (tC (.int 4))))
      (tAsg (tOp rCat (tOp (rIxL c.K) (tVar 1) (tVar 5)) (tLst (tCons (tC (.int 0)) tNil))) (gSub (tVar 1) (tVar 5) rSetL))
      tNext)
    (tSeq (tIfS (tAnd (tTest (tOp rEq (tVar 2) (tC (.int 5)))) (tTest (tOp zGt (tCB (lLen c.K) (tCons (tOp (rIxL c.K) (tVar 1) (tVar 5)) tNil)) (tC (.int 0)))))
      (tAsg (tOp zSub (tOp zMod (tOp zDiv (tVar 4) (tC (.int 64))) (tC (.int 6))) (tC (.int 1))) (gSub (tOp (rIxL c.K) (tVar 1) (tVar 5)) (tOp zMod (tVar 4) (tCB (lLen c.K) (tCons (tOp (rIxL c.K) (tVar 1) (tVar 5)) tNil))) rSetL))
      tNext)
    (tSeq (tIfS (tTest (tOp rEq (tVar 2) (tC (.int 6))))
      (tDrop (tBM c.K "list" rPopAt (tVar 1) (tCons (tVar 5) tNil)))
      tNext)
    (tSeq (tIfS (tTest (tOp rEq (tVar 2) (tC (.int 7))))
      (tDrop (tBM c.K "list" rAppend (tVar 1) (tCons (tLst tNil) tNil)))
      tNext)
    (tSeq (tIfS (tTest (tOp rEq (tVar 2) (tC (.int 8))))
      (tDrop (tBM c.K "list" rAppend (tVar 0) (tCons (tC (.int 0)) tNil)))
      tNext)
    (tSeq (tIfS (tTest (tOp rEq (tVar 2) (tC (.int 9))))
      (tAsg (tOp (rIxL c.K) (tLst (tCons (tOp zPow (tC (.int 10)) (tC (.int 29))) (tCons (tOp zSub (tC (.int 1)) (tOp zPow (tC (.int 10)) (tC (.int 29)))) tNil))) (tOp zMod (tVar 4) (tC (.int 2)))) (gSub (tVar 0) (tVar 6) rSetL))
      tNext)
    (tIfS (tAnd (tTest (tOp rEq (tVar 2) (tC (.int 10)))) (tTest (tOp zGt (tCB (lLen c.K) (tCons (tOp (rIxL c.K) (tVar 1) (tVar 5)) tNil)) (tC (.int 0)))))
      (tAsg (tOp zPow (tC (.int 10)) (tC (.int 29))) (gSub (tOp (rIxL c.K) (tVar 1) (tVar 5)) (tOp zMod (tVar 4) (tCB (lLen c.K) (tCons (tOp (rIxL c.K) (tVar 1) (tVar 5)) tNil))) rSetL))
      tNext))))))))))))

theorem run_law_spoilt (c : Cfg) : ∀ vs H Q E, sp_law_spoilt c vs H Q E → t_law_spoilt c { nx := fun _ H' => Q .non H', rt := Q } (L2.start sn_law_spoilt vs) H := by
  refine fn_runMv2 (ρ0 := fun z => [some (1, dat z.1), some (2, dat z.2.1), some (0, dat z.2.2.1), some (0, dat z.2.2.2.1), some (0, dat z.2.2.2.2), none, none]) (fun _ => rfl) (fun _ => Nat.le_of_ble_eq_true rfl) ?_
  rintro ⟨bs, ms, way, cell, number⟩ ⟨⟨b0, b1⟩, ⟨m0, m1⟩, hrows⟩
  dsimp only at b0 b1 m0 m1 hrows ⊢
  refine runK_seq (runK_set (n := 0) (d := Dat.d (cell % (ms.length : Int))) ?_ (by decide) rfl) fun ρ' e => ?_
  · apply TX.ofCur
    walk_at "ev"
  subst e
  dsimp only [List.set]
  refine runK_seq (runK_set (n := 0) (d := Dat.d (cell % (bs.length : Int))) ?_ (by decide) rfl) fun ρ' e => ?_
  · apply TX.ofCur
    walk_at "ev"
  subst e
  dsimp only [List.set]
  generalize hat : cell % (ms.length : Int) = ai
  generalize hbx : cell % (bs.length : Int) = box
  obtain ⟨a0, a1⟩ : 0 ≤ ai ∧ ai < ms.length := hat ▸ ⟨Int.emod_nonneg _ (by omega), Int.emod_lt_of_pos _ (by omega)⟩
  obtain ⟨x0, x1⟩ : 0 ≤ box ∧ box < bs.length := hbx ▸ ⟨Int.emod_nonneg _ (by omega), Int.emod_lt_of_pos _ (by omega)⟩
  have hrow := hrows _ (at_mem (xs := ms) a0 a1)
  have hget : (ms.map Dat.d)[ai.toNat]? = some (.lst ((at' ms ai).map Dat.d)) := by
    obtain ⟨k, rfl⟩ := Int.eq_ofNat_of_zero_le a0
    have hk : k < ms.length := by omega
    rw [show ((k : Nat) : Int).toNat = k by omega, List.getElem?_map, List.getElem?_eq_getElem hk, at_get hk]
    rfl
  generalize hρ : ([some (1, dat bs), some (2, dat ms), some (0, dat way), some (0, dat cell), some (0, dat number), some (0, Dat.d ai), some (0, Dat.d box)] : Rho) = ρ0
  let Any : Rho → Prop := fun ρ' => ∃ (bs' : List Int) (ms' : List (List Int)), bs'.length ≤ bs.length + 1 ∧ ms'.length ≤ ms.length + 1 ∧ ρ' = [some (1, dat bs'), some (2, dat ms'), some (0, dat way), some (0, dat cell), some (0, dat number), some (0, Dat.d ai), some (0, Dat.d box)]
  let Pk : Int → Rho → Prop := fun k ρ' => Any ρ' ∧ (k < way → ρ' = ρ0)
  have any0 : Any ρ0 := ⟨bs, ms, by omega, by omega, hρ.symm⟩
  have step : ∀ (k : Int) (t : TS), RunK c [0, 1] t ρ0 Any → ∀ ρ', Pk (k - 1) ρ' → RunK c [0, 1] (tIfS (tTest (tOp rEq (tVar 2) (tC (.int k)))) t tNext) ρ' (Pk k) := by
    rintro k t h ρ' ⟨⟨bs', ms', h1, h2, rfl⟩, h3⟩
    apply runK_if (b := decide (way = k))
    · walk_at "ev"
    · intro z
      have z' := of_decide_eq_true z
      rw [h3 (by omega)]
      exact runK_mono h fun ρ2 q => ⟨q, fun w => by omega⟩
    · intro z
      have z' := of_decide_eq_false z
      exact runK_next ⟨⟨bs', ms', h1, h2, rfl⟩, fun w => h3 (by omega)⟩
  have step2 : ∀ (k : Int) (t : TS), (0 < (at' ms ai).length → RunK c [0, 1] t ρ0 Any) → ∀ ρ', Pk (k - 1) ρ' → RunK c [0, 1] (tIfS (tAnd (tTest (tOp rEq (tVar 2) (tC (.int k)))) (tTest (tOp zGt (tCB (lLen c.K) (tCons (tOp (rIxL c.K) (tVar 1) (tVar 5)) tNil)) (tC (.int 0))))) t tNext) ρ' (Pk k) := by
    rintro k t h ρ' ⟨⟨bs', ms', h1, h2, rfl⟩, h3⟩
    by_cases z : way = k
    · rw [h3 (by omega), ← hρ]
      apply runK_if (b := decide (way = k) && decide ((0 : Int) < ((at' ms ai).length : Int)))
      · apply et_and
        · walk_at "ev"
        · intro _
          walk_at "ev"
      · intro y
        rw [Bool.and_eq_true, decide_eq_true_eq, decide_eq_true_eq] at y
        rw [hρ]
        exact runK_mono (h (by omega)) fun ρ2 q => ⟨q, fun w => by omega⟩
      · intro y
        exact runK_next ⟨hρ ▸ any0, fun w => by omega⟩
    · apply runK_if (b := decide (way = k) && true)
      · apply et_and
        · walk_at "ev"
        · intro y
          exact absurd (of_decide_eq_true y) z
      · intro y
        rw [Bool.and_true] at y
        exact absurd (of_decide_eq_true y) z
      · intro y
        exact runK_next ⟨⟨bs', ms', h1, h2, rfl⟩, fun w => h3 (by omega)⟩
  have big : ∀ (ρ : Rho), ρ[4]? = some (some (0, Dat.d number)) → TX c (tOp (rIxL c.K) (tLst (tCons (tOp zPow (tC (.int 10)) (tC (.int 29))) (tCons (tOp zSub (tC (.int 1)) (tOp zPow (tC (.int 10)) (tC (.int 29)))) tNil))) (tOp zMod (tVar 4) (tC (.int 2)))) ρ (at' [(10 : Int) ^ (29 : Int).toNat, 1 - 10 ^ (29 : Int).toNat] (number % 2)) := fun ρ q => by
    apply tx_ix
    · exact NX.give 1 (nx_lst (la_tx (tx_pow tx_int tx_int ⟨by decide, by decide, by decide⟩) (la_tx (tx_sub tx_int (tx_pow tx_int tx_int ⟨by decide, by decide, by decide⟩)) la_nil)) (by show 2 ≤ 100000; decide))
    · exact tx_mod (tx_var q) tx_int (by decide)
    · exact Int.emod_nonneg _ (by decide)
    · exact Int.emod_lt_of_pos _ (by decide)
  subst hρ
  have ixb : ixN (bs.map (Dat.d (α := Int))).length box = some box.toNat := by
    rw [List.length_map]
    exact ix_of x0 x1
  have ixm : ixN (ms.map (Dat.d (α := List Int))).length ai = some ai.toNat := by
    rw [List.length_map]
    exact ix_of a0 a1
  have p1 : RunK c [0, 1] (tAsg (tOp (rIxL c.K) (tLst (tCons (tUn zNeg (tC (.int 1))) (tCons (tOp zAdd (tOp (rIxL c.K) (tVar 0) (tVar 6)) (tC (.int 1))) (tCons (tC (.int 41)) (tCons (tOp zMod (tVar 4) (tC (.int 5))) tNil))))) (tOp zMod (tVar 4) (tC (.int 4)))) (gSub (tVar 0) (tVar 6) rSetL)) [some (1, dat bs), some (2, dat ms), some (0, dat way), some (0, dat cell), some (0, dat number), some (0, Dat.d ai), some (0, Dat.d box)] Any := by
    apply runK_sub
    refine run_setIx (l := 0) (i := box) (k := box.toNat) (ds := bs.map Dat.d) (d := Dat.d (at' [-1, at' bs box + 1, 41, number % 5] (number % 4))) rfl ?_ (ex_var rfl) ixb ?_
    · apply TX.ofCur
      apply tx_ix
      · exact NX.give 1 (nx_lst (la_tx (tx_neg tx_int) (la_tx (tx_add (tx_ix (xs := bs) (tx_var rfl) (tx_var rfl) x0 x1) tx_int) (la_tx tx_int (la_tx (tx_mod (tx_var rfl) tx_int (by decide)) la_nil)))) (by show 4 ≤ 100000; decide))
      · walk_at "ev"
      · exact Int.emod_nonneg _ (by decide)
      · exact Int.emod_lt_of_pos _ (by decide)
    · rw [← List.map_set]
      exact ⟨bs.set box.toNat _, ms, by rw [List.length_set]; omega, by omega, rfl⟩
  have p2 : RunK c [0, 1] (tDrop (tBM c.K "list" rPopAt (tVar 0) (tCons (tVar 6) tNil))) [some (1, dat bs), some (2, dat ms), some (0, dat way), some (0, dat cell), some (0, dat number), some (0, Dat.d ai), some (0, Dat.d box)] Any := by
    apply runK_drop
    refine run_popAt (l := 0) (i := box) (ds := bs.map Dat.d) rfl (ex_var rfl) x0 (by rw [List.length_map]; omega) (by omega) ?_
    rw [DL.erase_map]
    exact ⟨bs.eraseIdx box.toNat, ms, by have := List.length_eraseIdx_le bs box.toNat; omega, by omega, rfl⟩
  have p3 : RunK c [0, 1] (tAsg (tSl (rSlL c.K) (tOp (rIxL c.K) (tVar 1) (tVar 5)) (tPart (tC (.int 1))) tNoPart) (gSub (tVar 1) (tVar 5) rSetL)) [some (1, dat bs), some (2, dat ms), some (0, dat way), some (0, dat cell), some (0, dat number), some (0, Dat.d ai), some (0, Dat.d box)] Any := by
    apply runK_sub
    refine run_setIxN (n := 1) (l := 1) (i := ai) (k := ai.toNat) (ds := ms.map Dat.d) (d := Dat.d ((at' ms ai).drop 1)) rfl ?_ (ex_var rfl) ixm ?_
    · apply EX.ofCurL
      exact nx_from (k := 1) (xs := at' ms ai) (tx_ix (xs := ms) (tx_var rfl) (tx_var rfl) a0 a1)
    · rw [← List.map_set]
      exact ⟨bs, ms.set ai.toNat _, by omega, by rw [List.length_set]; omega, rfl⟩
  have p4 : RunK c [0, 1] (tAsg (tOp rCat (tOp (rIxL c.K) (tVar 1) (tVar 5)) (tLst (tCons (tC (.int 0)) tNil))) (gSub (tVar 1) (tVar 5) rSetL)) [some (1, dat bs), some (2, dat ms), some (0, dat way), some (0, dat cell), some (0, dat number), some (0, Dat.d ai), some (0, Dat.d box)] Any := by
    apply runK_sub
    refine run_setIxN (n := 1) (l := 1) (i := ai) (k := ai.toNat) (ds := ms.map Dat.d) (d := Dat.d (at' ms ai ++ [(0 : Int)])) rfl ?_ (ex_var rfl) ixm ?_
    · apply EX.ofCurL
      exact nx_cat (xs := at' ms ai) (ys := [(0 : Int)]) (tx_ix (xs := ms) (tx_var rfl) (tx_var rfl) a0 a1) (NX.tx (nx_one tx_int)) (by show (at' ms ai).length + 1 ≤ 100000; omega)
    · rw [← List.map_set]
      exact ⟨bs, ms.set ai.toNat _, by omega, by rw [List.length_set]; omega, rfl⟩
  have inrow : ∀ (te : TE) (y : Int), 0 < (at' ms ai).length → TX c te (cur [some (1, dat bs), some (2, dat ms), some (0, dat way), some (0, dat cell), some (0, dat number), some (0, Dat.d ai), some (0, Dat.d box)]) y → RunK c [0, 1] (tAsg te (gSub (tOp (rIxL c.K) (tVar 1) (tVar 5)) (tOp zMod (tVar 4) (tCB (lLen c.K) (tCons (tOp (rIxL c.K) (tVar 1) (tVar 5)) tNil))) rSetL)) [some (1, dat bs), some (2, dat ms), some (0, dat way), some (0, dat cell), some (0, dat number), some (0, Dat.d ai), some (0, Dat.d box)] Any := by
    intro te y hl hy
    apply runK_sub
    have n0 : 0 ≤ number % ((at' ms ai).length : Int) := Int.emod_nonneg _ (by omega)
    have n1 : number % ((at' ms ai).length : Int) < (at' ms ai).length := Int.emod_lt_of_pos _ (by omega)
    refine run_setIn2 (l := 1) (j := ai.toNat) (k := (number % ((at' ms ai).length : Int)).toNat) (i := ai) (i2 := number % ((at' ms ai).length : Int)) (ds := ms.map Dat.d) (es := (at' ms ai).map Dat.d) (d := Dat.d y) rfl (TX.ofCur hy) (ex_var rfl) (by omega) hget ?_ ?_ ?_
    · apply TX.ofCur
      walk_at "ev"
    · rw [List.length_map]
      exact ix_of n0 n1
    · rw [← List.map_set]
      refine ⟨bs, ms.set ai.toNat ((at' ms ai).set (number % ((at' ms ai).length : Int)).toNat y), by omega, by rw [List.length_set]; omega, ?_⟩
      have e1 : (ms.map Dat.d).set ai.toNat (D.lst (((at' ms ai).set (number % ((at' ms ai).length : Int)).toNat y).map Dat.d)) = (ms.set ai.toNat ((at' ms ai).set (number % ((at' ms ai).length : Int)).toNat y)).map Dat.d := (List.map_set ..).symm
      rw [e1]
      rfl
  have p5 := fun hl => inrow (tOp zSub (tOp zMod (tOp zDiv (tVar 4) (tC (.int 64))) (tC (.int 6))) (tC (.int 1))) (number / 64 % 6 - 1) hl (by walk_at "ev")
  have p6 : RunK c [0, 1] (tDrop (tBM c.K "list" rPopAt (tVar 1) (tCons (tVar 5) tNil))) [some (1, dat bs), some (2, dat ms), some (0, dat way), some (0, dat cell), some (0, dat number), some (0, Dat.d ai), some (0, Dat.d box)] Any := by
    apply runK_drop
    refine run_popAtN (n := 1) (l := 1) (i := ai) (ds := ms.map Dat.d) rfl (ex_var rfl) a0 (by rw [List.length_map]; omega) (by omega) ?_
    rw [DL.erase_map]
    exact ⟨bs, ms.eraseIdx ai.toNat, by omega, by have := List.length_eraseIdx_le ms ai.toNat; omega, rfl⟩
  have p7 : RunK c [0, 1] (tDrop (tBM c.K "list" rAppend (tVar 1) (tCons (tLst tNil) tNil))) [some (1, dat bs), some (2, dat ms), some (0, dat way), some (0, dat cell), some (0, dat number), some (0, Dat.d ai), some (0, Dat.d box)] Any := by
    apply runK_drop
    apply run_appT (n := 1) (xs := ms) (x := ([] : List Int)) rfl
    · exact nx_nil
    · omega
    · exact ⟨bs, ms ++ [[]], by omega, by rw [List.length_append, List.length_singleton]; omega, rfl⟩
  have p8 : RunK c [0, 1] (tDrop (tBM c.K "list" rAppend (tVar 0) (tCons (tC (.int 0)) tNil))) [some (1, dat bs), some (2, dat ms), some (0, dat way), some (0, dat cell), some (0, dat number), some (0, Dat.d ai), some (0, Dat.d box)] Any := by
    apply runK_drop
    apply run_appT (n := 0) (xs := bs) (x := (0 : Int)) rfl
    · exact TX.nx tx_int
    · omega
    · exact ⟨bs ++ [0], ms, by rw [List.length_append, List.length_singleton]; omega, by omega, rfl⟩
  have p9 : RunK c [0, 1] (tAsg (tOp (rIxL c.K) (tLst (tCons (tOp zPow (tC (.int 10)) (tC (.int 29))) (tCons (tOp zSub (tC (.int 1)) (tOp zPow (tC (.int 10)) (tC (.int 29)))) tNil))) (tOp zMod (tVar 4) (tC (.int 2)))) (gSub (tVar 0) (tVar 6) rSetL)) [some (1, dat bs), some (2, dat ms), some (0, dat way), some (0, dat cell), some (0, dat number), some (0, Dat.d ai), some (0, Dat.d box)] Any := by
    apply runK_sub
    refine run_setIx (l := 0) (i := box) (k := box.toNat) (ds := bs.map Dat.d) (d := Dat.d (at' [(10 : Int) ^ (29 : Int).toNat, 1 - 10 ^ (29 : Int).toNat] (number % 2))) rfl (big _ rfl) (ex_var rfl) ixb ?_
    rw [← List.map_set]
    exact ⟨bs.set box.toNat _, ms, by rw [List.length_set]; omega, by omega, rfl⟩
  have p10 := fun hl => inrow (tOp zPow (tC (.int 10)) (tC (.int 29))) ((10 : Int) ^ (29 : Int).toNat) hl (tx_pow tx_int tx_int ⟨by decide, by decide, by decide⟩)
  have fin : ∀ ρ', Pk 10 ρ' → ∃ e1 e2, (∃ (bs' : List Int) (ms' : List (List Int)), e1 = dat bs' ∧ e2 = dat ms' ∧ bs'.length ≤ bs.length + 1 ∧ ms'.length ≤ ms.length + 1) ∧ ρ'[0]? = some (some (1, e1)) ∧ ρ'[1]? = some (some (2, e2)) := by
    rintro ρ' ⟨⟨bs', ms', h1, h2, rfl⟩, _⟩
    exact ⟨_, _, ⟨bs', ms', rfl, rfl, h1, h2⟩, rfl, rfl⟩
  have s0 : Pk 0 [some (1, dat bs), some (2, dat ms), some (0, dat way), some (0, dat cell), some (0, dat number), some (0, Dat.d ai), some (0, Dat.d box)] := ⟨any0, fun _ => rfl⟩
  refine runK_mono ?_ fin
  refine runK_seq (step 1 _ p1 _ s0) fun _ s1 => ?_
  refine runK_seq (step 2 _ p2 _ s1) fun _ s2 => ?_
  refine runK_seq (step 3 _ p3 _ s2) fun _ s3 => ?_
  refine runK_seq (step 4 _ p4 _ s3) fun _ s4 => ?_
  refine runK_seq (step2 5 _ p5 _ s4) fun _ s5 => ?_
  refine runK_seq (step 6 _ p6 _ s5) fun _ s6 => ?_
  refine runK_seq (step 7 _ p7 _ s6) fun _ s7 => ?_
  refine runK_seq (step 8 _ p8 _ s7) fun _ s8 => ?_
  refine runK_seq (step 9 _ p9 _ s8) fun _ s9 => ?_
  exact step2 10 _ p10 _ s9

theorem d_law_spoilt {c : Cfg} {mg : Str → Option Value} {base : Heap} (T : Top c mg) (f : Addr) (cdv : Value) (A : Around) (outer : List PySem.Env) (s : Shared) (H : Hp) (E : XK) (hr : Room 0 (A.deeper (PyProof.Rows.envOfC "_law_spoilt" (defScope s_law_spoilt) s.heap.objs.size f cdv))) :
    PSs (bodyCx c mg base sn_law_spoilt "_law_spoilt" s_law_spoilt f cdv A outer s H E) (defBody s_law_spoilt) (t_law_spoilt c) := by
  have nd := sc_law_spoilt.nd
  exact pss_cons (ps_set (i := 5) nd rfl (Or.inl rfl) (pe_op o_mod (pv 3) (pe_callB c_len (by rfl) T.b_len PySem.boot_len (pa_cons (pv 1) pa_nil))))
    (pss_cons (ps_set (i := 6) nd rfl (Or.inl rfl) (pe_op o_mod (pv 3) (pe_callB c_len (by rfl) T.b_len PySem.boot_len (pa_cons (pv 0) pa_nil))))
    (pss_cons (ps_if (pt_cmpR op_eq (pv 2) (pe_int) (nomark _))
      (pss_one (ps_asg (pe_ix ix_list (pe_lst (pa_cons (pe_un u_neg (pe_int)) (pa_cons (pe_op o_add (pe_ix ix_list (pv 0) (pv 6) (fun _ _ => rfl)) (pe_int)) (pa_cons (pe_int) (pa_cons (pe_op o_mod (pv 4) (pe_int)) pa_nil))))) (pe_op o_mod (pv 4) (pe_int)) (fun _ _ => rfl)) (pg_sub (pv 0) (pv 6) set_list)))
      (pss_nil))
    (pss_cons (ps_if (pt_cmpR op_eq (pv 2) (pe_int) (nomark _))
      (pss_one (ps_expr (pe_bm PySem.F.plainAttrs_list PySem.F.slot_list_pop PySem.F.type_list_pop mt_popAt (pv 0) (pa_cons (pv 6) pa_nil))))
      (pss_nil))
    (pss_cons (ps_if (pt_cmpR op_eq (pv 2) (pe_int) (nomark _))
      (pss_one (ps_asg (pe_slice sl_list (pe_ix ix_list (pv 1) (pv 5) (fun _ _ => rfl)) (po_some (pe_int)) po_none) (pg_sub (pv 1) (pv 5) set_list)))
      (pss_nil))
    (pss_cons (ps_if (pt_cmpR op_eq (pv 2) (pe_int) (nomark _))
      (pss_one (ps_asg (pe_op op_cat (pe_ix ix_list (pv 1) (pv 5) (fun _ _ => rfl)) (pe_lst (pa_cons (pe_int) pa_nil))) (pg_sub (pv 1) (pv 5) set_list)))
      (pss_nil))
    (pss_cons (ps_if (PW.pt (pw_and (pt_cmpR op_eq (pv 2) (pe_int) (nomark _)) (pw_and1 (pt_cmpR o_gt (pe_callB c_len (by rfl) T.b_len PySem.boot_len (pa_cons (pe_ix ix_list (pv 1) (pv 5) (fun _ _ => rfl)) pa_nil)) (pe_int) (nomark _)))))
      (pss_one (ps_asg (pe_op o_sub (pe_op o_mod (pe_op o_div (pv 4) (pe_int)) (pe_int)) (pe_int)) (pg_sub (pe_ix ix_list (pv 1) (pv 5) (fun _ _ => rfl)) (pe_op o_mod (pv 4) (pe_callB c_len (by rfl) T.b_len PySem.boot_len (pa_cons (pe_ix ix_list (pv 1) (pv 5) (fun _ _ => rfl)) pa_nil))) set_list)))
      (pss_nil))
    (pss_cons (ps_if (pt_cmpR op_eq (pv 2) (pe_int) (nomark _))
      (pss_one (ps_expr (pe_bm PySem.F.plainAttrs_list PySem.F.slot_list_pop PySem.F.type_list_pop mt_popAt (pv 1) (pa_cons (pv 5) pa_nil))))
      (pss_nil))
    (pss_cons (ps_if (pt_cmpR op_eq (pv 2) (pe_int) (nomark _))
      (pss_one (ps_expr (pe_bm PySem.F.plainAttrs_list PySem.F.slot_list_append PySem.F.type_list_append mt_append (pv 1) (pa_cons (pe_lst (pa_nil)) pa_nil))))
      (pss_nil))
    (pss_cons (ps_if (pt_cmpR op_eq (pv 2) (pe_int) (nomark _))
      (pss_one (ps_expr (pe_bm PySem.F.plainAttrs_list PySem.F.slot_list_append PySem.F.type_list_append mt_append (pv 0) (pa_cons (pe_int) pa_nil))))
      (pss_nil))
    (pss_cons (ps_if (pt_cmpR op_eq (pv 2) (pe_int) (nomark _))
      (pss_one (ps_asg (pe_ix ix_list (pe_lst (pa_cons (pe_op o_pow (pe_int) (pe_int)) (pa_cons (pe_op o_sub (pe_int) (pe_op o_pow (pe_int) (pe_int))) pa_nil))) (pe_op o_mod (pv 4) (pe_int)) (fun _ _ => rfl)) (pg_sub (pv 0) (pv 6) set_list)))
      (pss_nil))
    (pss_one (ps_if (PW.pt (pw_and (pt_cmpR op_eq (pv 2) (pe_int) (nomark _)) (pw_and1 (pt_cmpR o_gt (pe_callB c_len (by rfl) T.b_len PySem.boot_len (pa_cons (pe_ix ix_list (pv 1) (pv 5) (fun _ _ => rfl)) pa_nil)) (pe_int) (nomark _)))))
      (pss_one (ps_asg (pe_op o_pow (pe_int) (pe_int)) (pg_sub (pe_ix ix_list (pv 1) (pv 5) (fun _ _ => rfl)) (pe_op o_mod (pv 4) (pe_callB c_len (by rfl) T.b_len PySem.boot_len (pa_cons (pe_ix ix_list (pv 1) (pv 5) (fun _ _ => rfl)) pa_nil))) set_list)))
      (pss_nil)))))))))))))
theorem k_law_spoilt {c : Cfg} {mg : Str → Option Value} {base : Heap} (T : Top c mg) : Callee c mg base "_law_spoilt" 1 ["counts", "maps", "way", "cell", "number"] (sp_law_spoilt c) :=
  callee_of T.d_law_spoilt sc_law_spoilt (len_law_spoilt c) (fun _ _ _ _ _ _ us hl => match us, hl with | [_, _, _, _, _], _ => rfl) (fun f cdv A outer s H E hr => d_law_spoilt T f cdv A outer s H E hr) (run_law_spoilt c)
def sp_law (c : Cfg) : Sp := spF c (ι := List Int) (fun ns => [.scr ns]) (fun _ => True) 0 (fun _ => .bl true)
theorem len_law (c : Cfg) : ∀ vs H Q E, sp_law c vs H Q E → vs.length = 1 := spF_len fun _ => rfl

def sn_law : List Str := ["script", "parts", "hall", "reading", "counts", "maps", "many", "handed", "found", "box", "arrow"]
def sx_law_0 : Scope := { kind := .function, names := [(".0", .local), ("box", .local), ("many", .free)], isGenerator := false, isCoroutine := false, more := [] }
def sxr_law_0 : Scope := { kind := .function, names := [(".0", .local), ("box", .local), ("many", .cell)], isGenerator := false, isCoroutine := false, more := [] }
def sx_law_1 : Scope := { kind := .function, names := [(".0", .local), ("arrow", .local), ("list", .globalImplicit), ("range", .globalImplicit), ("many", .free)], isGenerator := false, isCoroutine := false, more := [] }
def sxr_law_1 : Scope := { kind := .function, names := [(".0", .local), ("arrow", .local), ("list", .globalImplicit), ("range", .globalImplicit), ("many", .cell)], isGenerator := false, isCoroutine := false, more := [] }
theorem sc_law : FnScope sn_law ["script"] (defScope s_law) := ⟨rfl, rfl, rfl, by decide +kernel, rfl, by decide +kernel, by decide +kernel⟩
def t_law (c : Cfg) : TS :=
  (tSeq (tAsg (tCall (sp_law_parts c) [] E0 (tCons (tVar 0) (tCons (tC (.int 0)) tNil))) (gName 1))
    (tSeq (tAsg (tCall (sp_law_hall c) [] E0 (tCons (tVar 1) tNil)) (gName 2))
    (tSeq (tAsg (tCall (sp_law_drawn_reading c) [] E0 (tCons (tVar 0) (tCons (tC (.int 4)) (tCons (tVar 1) tNil)))) (gName 3))
    (tSeq (tPar 4 5 (tCons (tCB (lList c.K) (tCons (tOp (rIxT c.K) (tVar 3) (tC (.int 0))) tNil)) (tCons (tCall (sp_law_copy c) [] E0 (tCons (tOp (rIxT c.K) (tVar 3) (tC (.int 1))) tNil)) tNil)))
    (tSeq (tIfS (tTest (tOp rEq (tOp zMod (tCall (sp_law_cell c) [] E0 (tCons (tVar 0) (tCons (tC (.int 9)) tNil))) (tC (.int 8))) (tC (.int 1))))
      (tSeq (tAsg (tOp zAdd (tC (.int 38)) (tOp zMod (tOp zDiv (tCall (sp_law_cell c) [] E0 (tCons (tVar 0) (tCons (tC (.int 9)) tNil))) (tC (.int 8))) (tC (.int 5)))) (gName 6))
    (tSeq (tAsg (tLc (iList c.K (tVar 4)) (gName 9) tYes (tVar 6) [9]) (gName 4))
    (tAsg (tLc (iList c.K (tVar 5)) (gName 10) tYes (tLstRg (tRg1 (tVar 6))) [10]) (gName 5))))
      tNext)
    (tSeq (tIfS (tTest (tOp zGt (tOp zMod (tCall (sp_law_cell c) [] E0 (tCons (tVar 0) (tCons (tC (.int 6)) tNil))) (tC (.int 4))) (tC (.int 0))))
      (tDrop (tCall (sp_law_spoilt c) [] E0 (tCons (tVar 4) (tCons (tVar 5) (tCons (tOp zAdd (tC (.int 1)) (tOp zMod (tOp zDiv (tCall (sp_law_cell c) [] E0 (tCons (tVar 0) (tCons (tC (.int 6)) tNil))) (tC (.int 4))) (tC (.int 10)))) (tCons (tCall (sp_law_cell c) [] E0 (tCons (tVar 0) (tCons (tC (.int 7)) tNil))) (tCons (tCall (sp_law_cell c) [] E0 (tCons (tVar 0) (tCons (tC (.int 8)) tNil))) tNil)))))))
      tNext)
    (tSeq (tAsg (tLst (tCons (tCB (lList c.K) (tCons (tVar 4) tNil)) (tCons (tCall (sp_law_copy c) [] E0 (tCons (tVar 5) tNil)) tNil))) (gName 7))
    (tSeq (tAsg (tCall (sp_is_reading c) [] E0 (tCons (tVar 2) (tCons (tOp (rIxL c.K) (tVar 7) (tC (.int 0))) (tCons (tOp (rIxL c.K) (tVar 7) (tC (.int 1))) tNil)))) (gName 8))
    (tSeq (tIfS (tOr (tNot (tB (tCB (rIsi c.K) (tCons (tVar 8) (tCons (tC (.ty "bool")) tNil))))) (tTest (tOp (rNeD c.K) (tVar 7) (tLst (tCons (tVar 4) (tCons (tVar 5) tNil))))))
      (tRet (tC (.bl false)))
      tNext)
    (tRet (tOp rEq (tVar 8) (tCall (sp_law_good c) [] E0 (tCons (tVar 1) (tCons (tVar 4) (tCons (tVar 5) tNil)))))))))))))))

theorem run_law (c : Cfg) : ∀ vs H Q E, sp_law c vs H Q E → t_law c { nx := fun _ H' => Q .non H', rt := Q } (L2.start sn_law vs) H := by
  refine fn_run (ρ0 := fun ns => [some (0, .scr ns), none, none, none, none, none, none, none, none, none, none]) (fun _ => rfl) (fun _ => Nat.le_of_ble_eq_true rfl) ?_
  rintro ns -
  have hcell : ∀ (ρ : Rho) (i : Int) (ti : TE), 0 ≤ i → ρ[0]? = some (some (0, .scr ns)) → TX c ti ρ i → TX c (tCall (sp_law_cell c) [] E0 (tCons (tVar 0) (tCons ti tNil))) ρ (cellV ns i) := fun ρ i ti h0 h1 h2 =>
    tx_call (ns, i) (ea_cons (ex_var h1) (tea_cons h2 tea_nil)) h0
  apply run_seq
  apply run_setR (ns, (0 : Int))
  · exact ea_cons (ex_var rfl) (tea_cons tx_int tea_nil)
  · exact Int.le_refl 0
  rintro d ⟨sz, known, rfl, G⟩
  have hp : HallOk (hallOf sz known) := hallOf_ok G
  obtain ⟨⟨hr0, hr1, he0, he1⟩, _, ht, _, _⟩ := hall_parts hp
  dsimp only [List.set]
  apply run_seq
  apply run_setH (h := hallOf sz known)
  · exact hx_call (hallOf sz known, [dat known, dat sz]) (ea_cons (px_var rfl) ea_nil) hp
  dsimp only [List.set]
  apply run_seq
  apply run_setR (ns, (4 : Int), sz, known)
  · exact ea_cons (ex_var rfl) (tea_cons tx_int (ea_cons (px_var rfl) ea_nil))
  · exact ⟨by show (0 : Int) ≤ 4; decide, G⟩
  rintro d ⟨cs, ms, rfl, R, hc4⟩
  dsimp only at R
  have lc := R.lc
  have lm := R.lm
  have hrow : ∀ r ∈ ms, r.length ≤ 40 := fun r hr => by
    obtain ⟨k, hk, e⟩ := List.getElem_of_mem hr
    rw [← e, ← at_get hk]
    exact R.row hp (by omega) (by omega)
  generalize hallOf sz known = h at hp hr0 hr1 he0 he1 ht R lc lm
  generalize [dat known, dat sz] = r
  dsimp only [List.set]
  apply run_seq
  apply run_par (n := 2) (d1 := Dat.d cs) (d2 := Dat.d ms)
  · refine ea_cons (EX.upI (n := 1) (xs := cs) ?_) (ea_cons ?_ ea_nil)
    · exact nx_list (tx_fst (p := ((cs, ms) : ReadT)) (tx_var rfl))
    · exact nx_call ms (tea_cons (tx_snd (p := ((cs, ms) : ReadT)) (tx_var rfl)) tea_nil) (by show ms.length ≤ 64000; omega)
  dsimp only [List.set]
  refine run_reI (n := 1) (m := 0) (l := 4) (xs := cs) rfl ?_
  dsimp only [List.set]
  apply run_seq
  refine run_mono (P := { nx := fun ρ' => ∃ (cs' : List Int) (ms' : List (List Int)) (a6 : Option (Nat × D)), cs'.length = cs.length ∧ ms'.length = ms.length ∧ (∀ r ∈ ms', r.length ≤ 100) ∧ ρ' = [some (0, .scr ns), some (0, pd h r), some (0, hd h), some (0, Dat.d ((cs, ms) : ReadT)), some (1, dat cs'), some (2, dat ms'), a6, none, none, none, none], rt := fun _ _ => False }) ?_ ?_ (fun _ _ z => z.elim)
  · apply run_if
    · apply ett
      apply bx_eq
      · apply tx_mod
        · apply hcell
          · show (0 : Int) ≤ 9; decide
          · rfl
          · walk_at "ev"
        · walk_at "ev"
        · decide
      · walk_at "ev"
    · intro _
      apply run_seq
      apply run_setT (x := 38 + cellV ns 9 / 8 % 5)
      · apply tx_add
        · walk_at "ev"
        · apply tx_mod
          · apply tx_div
            · apply hcell
              · show (0 : Int) ≤ 9; decide
              · rfl
              · walk_at "ev"
            · walk_at "ev"
            · exact ⟨by decide, by decide⟩
          · walk_at "ev"
          · decide
      dsimp only [List.set]
      have y0 : 0 ≤ cellV ns 9 / 8 % 5 := Int.emod_nonneg _ (by decide)
      have y1 : cellV ns 9 / 8 % 5 < 5 := Int.emod_lt_of_pos _ (by decide)
      generalize cellV ns 9 / 8 % 5 = y at y0 y1
      refine run_give (i := 4) rfl ?_
      dsimp only [List.set]
      apply run_seq
      apply run_setO 1 (cs.map fun _ => 38 + y)
      · apply nx_lcLm cs (fun _ => 38 + y)
        · walk_at "ev"
        · exact fun _ => gt_nm
        · intro x hx
          exact TX.nx (tx_var rfl)
        · omega
        · decide
      dsimp only [List.set]
      refine run_give (i := 5) rfl ?_
      dsimp only [List.set]
      apply run_setO 2 (ms.map fun _ => rangeI (38 + y).toNat)
      · apply nx_lcLm ms (fun _ => rangeI (38 + y).toNat)
        · walk_at "ev"
        · exact fun _ => gt_nm
        · intro x hx
          exact nx_lstRg (m := (38 + y).toNat) (i := 38 + y) (tx_var rfl) (by omega) (by omega)
        · omega
        · decide
      dsimp only [List.set]
      refine ⟨_, _, _, List.length_map .., List.length_map .., fun r hr => ?_, rfl⟩
      obtain ⟨_, _, rfl⟩ := List.mem_map.mp hr
      rw [rangeI_length]
      omega
    · intro _
      exact run_next ⟨cs, ms, _, rfl, rfl, fun r hr => Nat.le_trans (hrow r hr) (by decide), rfl⟩
  rintro ρ' ⟨cs', ms', a6, lc', lm', hrow', rfl⟩
  apply run_seq
  refine run_mono (P := { nx := fun ρ' => ∃ (cs' : List Int) (ms' : List (List Int)), cs'.length ≤ 100 ∧ ms'.length ≤ 100 ∧ ρ' = [some (0, .scr ns), some (0, pd h r), some (0, hd h), some (0, Dat.d ((cs, ms) : ReadT)), some (1, dat cs'), some (2, dat ms'), a6, none, none, none, none], rt := fun _ _ => False }) ?_ ?_ (fun _ _ z => z.elim)
  · apply run_if
    · apply ett
      apply bx_gt
      · apply tx_mod
        · apply hcell
          · show (0 : Int) ≤ 6; decide
          · rfl
          · walk_at "ev"
        · walk_at "ev"
        · decide
      · walk_at "ev"
    · intro _
      apply run_mv2 (i := 4) (j := 5) (cs', ms', 1 + cellV ns 6 / 4 % 10, cellV ns 7, cellV ns 8) (by decide) rfl rfl
      · refine tea_cons (x := 1 + cellV ns 6 / 4 % 10) ?_ (tea_cons (x := cellV ns 7) ?_ (tea_cons (x := cellV ns 8) ?_ tea_nil))
        · apply tx_add
          · walk_at "ev"
          · apply tx_mod
            · apply tx_div
              · apply hcell
                · show (0 : Int) ≤ 6; decide
                · rfl
                · walk_at "ev"
              · walk_at "ev"
              · exact ⟨by decide, by decide⟩
            · walk_at "ev"
            · decide
        · apply hcell
          · show (0 : Int) ≤ 7; decide
          · rfl
          · walk_at "ev"
        · apply hcell
          · show (0 : Int) ≤ 8; decide
          · rfl
          · walk_at "ev"
      · exact ⟨⟨by show 0 < cs'.length; omega, by show cs'.length ≤ 1000; omega⟩, ⟨by show 0 < ms'.length; omega, by show ms'.length ≤ 1000; omega⟩, fun r hr => Nat.le_trans (hrow' r hr) (by decide)⟩
      rintro e1 e2 ⟨cs2, ms2, rfl, rfl, q1, q2⟩
      dsimp only at q1 q2
      exact ⟨cs2, ms2, by omega, by omega, rfl⟩
    · intro _
      exact run_next ⟨cs', ms', by omega, by omega, rfl⟩
  clear lc' lm' hrow' 
  rintro ρ' ⟨cs', ms', hcl, hml, rfl⟩
  refine run_give (i := 4) rfl ?_
  dsimp only [List.set]
  refine run_give (i := 5) rfl ?_
  dsimp only [List.set]
  apply run_seq
  apply run_setA (LPair.mk cs' ms')
  · refine NX.give 1 (nx_lpair (n := 0) (TX.nx (NX.tx (nx_list (tx_var rfl)))) (TX.nx (NX.give 2 ?_)))
    exact nx_call ms' (tea_cons (tx_var rfl) tea_nil) (by show ms'.length ≤ 64000; omega)
  dsimp only [List.set]
  apply run_seq
  refine run_set (n := 0) (d := .bl (isReadB h cs' ms')) ?_ ?_
  · exact bx_call (h, cs', ms') (ea_cons (hx_var rfl) (tea_cons (x := cs') (tx_l0 (p := LPair.mk cs' ms') (tx_var rfl)) (tea_cons (x := ms') (tx_l1 (p := LPair.mk cs' ms') (tx_var rfl)) tea_nil))) hp
  dsimp only [List.set]
  apply run_seq
  apply run_if
  · apply et_or
    · apply et_not
      apply etB
      exact bx_boolB (bx_var rfl)
    · intro _
      apply ett
      apply bx_neT
      · exact tx_var (x := LPair.mk cs' ms') rfl
      · exact NX.give 1 (nx_lpair (x := cs') (y := ms') (n := 0) (TX.nx (tx_var rfl)) (TX.nx (tx_var rfl)))
      · decide
  · intro z
    rw [show eqT (LPair.mk cs' ms') (LPair.mk cs' ms') = true from eqT_iff.mpr rfl] at z
    simp at z
  intro _
  apply run_next
  refine run_ret (d := .bl true) ?_ ⟨rfl, rfl⟩
  have q := bx_eqB (c := c) (ρ := [some (0, .scr ns), some (0, pd h r), some (0, hd h), some (0, Dat.d ((cs, ms) : ReadT)), some (0, dat cs'), some (0, dat ms'), a6, some (0, dat (LPair.mk cs' ms')), some (0, .bl (isReadB h cs' ms')), none, none]) (ta := tVar 8) (tb := tCall (sp_law_good c) [] E0 (tCons (tVar 1) (tCons (tVar 4) (tCons (tVar 5) tNil)))) (a := isReadB h cs' ms') (b := isReadB h cs' ms') (bx_var rfl) (bx_call ((h, r), cs', ms') (ea_cons (px_var rfl) (tea_cons (tx_var rfl) (tea_cons (tx_var rfl) tea_nil))) ⟨hp, by show cs'.length ≤ 1000; omega⟩)
  rw [decide_eq_true rfl] at q
  exact q

theorem d_law {c : Cfg} {mg : Str → Option Value} {base : Heap} (T : Top c mg) (c_is_reading : Callee c mg base "is_reading" 2 ["hall", "counts", "maps"] (sp_is_reading c)) (c_law_cell : Callee c mg base "_law_cell" 1 ["script", "k"] (sp_law_cell c)) (c_law_parts : Callee c mg base "_law_parts" 3 ["script", "k"] (sp_law_parts c)) (c_law_copy : Callee c mg base "_law_copy" 1 ["rows"] (sp_law_copy c)) (c_law_hall : Callee c mg base "_law_hall" 6 ["parts"] (sp_law_hall c)) (c_law_drawn_reading : Callee c mg base "_law_drawn_reading" 3 ["script", "k", "parts"] (sp_law_drawn_reading c)) (c_law_good : Callee c mg base "_law_good" 1 ["parts", "counts", "maps"] (sp_law_good c)) (c_law_spoilt : Callee c mg base "_law_spoilt" 1 ["counts", "maps", "way", "cell", "number"] (sp_law_spoilt c)) (f : Addr) (cdv : Value) (A : Around) (outer : List PySem.Env) (s : Shared) (H : Hp) (E : XK) (hr : Room 6 (A.deeper (PyProof.Rows.envOfC "law" (defScope s_law) s.heap.objs.size f cdv))) :
    PSs (bodyCx c mg base sn_law "law" s_law f cdv A outer s H E) (defBody s_law) (t_law c) := by
  have nd := sc_law.nd
  exact pss_cons (ps_set (i := 1) nd rfl (Or.inl rfl) (pe_callD c_law_parts rfl rfl rfl (hr.mono (by decide)) (by rfl) (pa_cons (pv 0) (pa_cons (pe_int) pa_nil))))
    (pss_cons (ps_set (i := 2) nd rfl (Or.inl rfl) (pe_callD c_law_hall rfl rfl rfl (hr.mono (by decide)) (by rfl) (pa_cons (pv 1) pa_nil)))
    (pss_cons (ps_set (i := 3) nd rfl (Or.inl rfl) (pe_callD c_law_drawn_reading rfl rfl rfl (hr.mono (by decide)) (by rfl) (pa_cons (pv 0) (pa_cons (pe_int) (pa_cons (pv 1) pa_nil)))))
    (pss_cons (ps_par (i := 4) (j := 5) rfl nd rfl rfl (by decide) rfl rfl (pa_cons (pe_callTy c_list (by rfl) T.b_list (by decide +kernel) (pa_cons (pe_ix ix_tup (pv 3) (pe_int) (fun _ _ => rfl)) pa_nil)) (pa_cons (pe_callD c_law_copy rfl rfl rfl (hr.mono (by decide)) (by rfl) (pa_cons (pe_ix ix_tup (pv 3) (pe_int) (fun _ _ => rfl)) pa_nil)) pa_nil)) (by rfl))
    (pss_cons (ps_if (pt_cmpR op_eq (pe_op o_mod (pe_callD c_law_cell rfl rfl rfl (hr.mono (by decide)) (by rfl) (pa_cons (pv 0) (pa_cons (pe_int) pa_nil))) (pe_int)) (pe_int) (nomark _))
      (pss_cons (ps_set (i := 6) nd rfl (Or.inr rfl) (pe_op o_add (pe_int) (pe_op o_mod (pe_op o_div (pe_callD c_law_cell rfl rfl rfl (hr.mono (by decide)) (by rfl) (pa_cons (pv 0) (pa_cons (pe_int) pa_nil))) (pe_int)) (pe_int))))
    (pss_cons (ps_setLc (i := 4) (own := [("box", 9)]) (g := (gName 9)) (tt := tYes) (wi := (iList c.K (tVar 4))) (te := (tVar 6)) rfl nd rfl rfl (sw_true rfl rfl rfl (by decide +kernel)) (pi_list (pv 4)) (blkOk_by (own := [("box", 9)]) (N := sn_law) (sc := defScope s_law) (scope := sx_law_0) (by decide +kernel)) (fun _ _ _ _ _ => pg_name (i := 9) nd rfl (Or.inl rfl)) (fun _ _ _ _ _ => pts_nil) (fun _ _ _ _ _ => pv 6))
    (pss_one (ps_setLc (i := 5) (own := [("arrow", 10)]) (g := (gName 10)) (tt := tYes) (wi := (iList c.K (tVar 5))) (te := (tLstRg (tRg1 (tVar 6)))) rfl nd rfl rfl (sw_true rfl rfl rfl (by decide +kernel)) (pi_list (pv 5)) (blkOk_by (own := [("arrow", 10)]) (N := sn_law) (sc := defScope s_law) (scope := sx_law_1) (by decide +kernel)) (fun _ _ _ _ _ => pg_name (i := 10) nd rfl (Or.inl rfl)) (fun _ _ _ _ _ => pts_nil) (fun _ _ _ _ _ => pe_listRg rfl (by rfl) T.b_list (prg_1 (by rfl) T.b_range (pv 6)))))))
      (pss_nil))
    (pss_cons (ps_if (pt_cmpR o_gt (pe_op o_mod (pe_callD c_law_cell rfl rfl rfl (hr.mono (by decide)) (by rfl) (pa_cons (pv 0) (pa_cons (pe_int) pa_nil))) (pe_int)) (pe_int) (nomark _))
      (pss_one (ps_expr (pe_callD c_law_spoilt rfl rfl rfl (hr.mono (by decide)) (by rfl) (pa_cons (pv 4) (pa_cons (pv 5) (pa_cons (pe_op o_add (pe_int) (pe_op o_mod (pe_op o_div (pe_callD c_law_cell rfl rfl rfl (hr.mono (by decide)) (by rfl) (pa_cons (pv 0) (pa_cons (pe_int) pa_nil))) (pe_int)) (pe_int))) (pa_cons (pe_callD c_law_cell rfl rfl rfl (hr.mono (by decide)) (by rfl) (pa_cons (pv 0) (pa_cons (pe_int) pa_nil))) (pa_cons (pe_callD c_law_cell rfl rfl rfl (hr.mono (by decide)) (by rfl) (pa_cons (pv 0) (pa_cons (pe_int) pa_nil))) pa_nil))))))))
      (pss_nil))
    (pss_cons (ps_set (i := 7) nd rfl (Or.inl rfl) (pe_lst (pa_cons (pe_callTy c_list (by rfl) T.b_list (by decide +kernel) (pa_cons (pv 4) pa_nil)) (pa_cons (pe_callD c_law_copy rfl rfl rfl (hr.mono (by decide)) (by rfl) (pa_cons (pv 5) pa_nil)) pa_nil))))
    (pss_cons (ps_set (i := 8) nd rfl (Or.inl rfl) (pe_callD c_is_reading rfl rfl rfl (hr.mono (by decide)) (by rfl) (pa_cons (pv 2) (pa_cons (pe_ix ix_list (pv 7) (pe_int) (fun _ _ => rfl)) (pa_cons (pe_ix ix_list (pv 7) (pe_int) (fun _ _ => rfl)) pa_nil)))))
    (pss_cons (ps_if (PW.pt (pw_or (pt_not (pt_val (pe_callB call_isi (by rfl) T.b_isinstance (by decide +kernel) (pa_cons (pv 8) (pa_cons (pe_bltn (by rfl) T.b_bool (by decide +kernel) (rfl : RelV (.ty "bool") _)) pa_nil))))) (pw_or1 (pt_cmpR (op_neD hr.units) (pv 7) (pe_lst (pa_cons (pv 4) (pa_cons (pv 5) pa_nil))) (nomark _)))))
      (pss_one (ps_ret (pe_bl)))
      (pss_nil))
    (pss_one (ps_ret (pe_cmpR op_eq (pv 8) (pe_callD c_law_good rfl rfl rfl (hr.mono (by decide)) (by rfl) (pa_cons (pv 1) (pa_cons (pv 4) (pa_cons (pv 5) pa_nil)))) (nomark _))))))))))))
theorem k_law {c : Cfg} {mg : Str → Option Value} {base : Heap} (T : Top c mg) (c_is_reading : Callee c mg base "is_reading" 2 ["hall", "counts", "maps"] (sp_is_reading c)) (c_law_cell : Callee c mg base "_law_cell" 1 ["script", "k"] (sp_law_cell c)) (c_law_parts : Callee c mg base "_law_parts" 3 ["script", "k"] (sp_law_parts c)) (c_law_copy : Callee c mg base "_law_copy" 1 ["rows"] (sp_law_copy c)) (c_law_hall : Callee c mg base "_law_hall" 6 ["parts"] (sp_law_hall c)) (c_law_drawn_reading : Callee c mg base "_law_drawn_reading" 3 ["script", "k", "parts"] (sp_law_drawn_reading c)) (c_law_good : Callee c mg base "_law_good" 1 ["parts", "counts", "maps"] (sp_law_good c)) (c_law_spoilt : Callee c mg base "_law_spoilt" 1 ["counts", "maps", "way", "cell", "number"] (sp_law_spoilt c)) : Callee c mg base "law" 7 ["script"] (sp_law c) :=
  callee_of T.d_law sc_law (len_law c) (fun _ _ _ _ _ _ us hl => match us, hl with | [_], _ => rfl) (fun f cdv A outer s H E hr => d_law T c_is_reading c_law_cell c_law_parts c_law_copy c_law_hall c_law_drawn_reading c_law_good c_law_spoilt f cdv A outer s H E hr) (run_law c)
def spEnd (K : PySem.W.Frag) : Sp := fun vs H Q _ => ∃ (a : Addr) (ns : List Int), vs = [.ref a] ∧ SqL K H a (ns.map V.int) ∧ ∀ H', Q (.bl true) H'
theorem end_law {c : Cfg} (vs : List V) (H : Hp) (Q : VK) (E : XK) (h : spEnd c.K vs H Q E) : sp_law c vs H Q E := by
  obtain ⟨a, ns, rfl, hS, k⟩ := h
  refine ⟨ns, H, trivial, .refl _, .cons (.scr hS) .nil, fun v H' R => ?_⟩
  obtain ⟨B', S, T, f, z⟩ := R
  obtain rfl := DR.bl_inv z.2
  exact k H'
theorem all_mk {l : PySem.W.OpenLaw} {w : World} {K : PySem.W.Frag} {h : Heap} {mg : Str → Option Value} {fa C fh f0 f1 f2 f3 f4 f5 f6 f7 f8 f9 f10 f11 f12 f13 f14 f15 f16 f17 f18 f19 f20 f21 f22 f23 : Addr} (X : K.In h) (G : h.Ns mainGlobals mg) (hfa : mg "law" = some (.ref fa))
    {odh anh od0 an0 od1 an1 od2 an2 od3 an3 od4 an4 od5 an5 od6 an6 od7 an7 od8 an8 od9 an9 od10 an10 od11 an11 od12 an12 od13 an13 od14 an14 od15 an15 od16 an16 od17 an17 od18 an18 od19 an19 od20 an20 od21 an21 od22 an22 od23 an23 : Option Addr} {slh sl0 sl1 sl2 sl3 sl4 sl5 sl6 sl7 sl8 sl9 sl10 sl11 sl12 sl13 sl14 sl15 sl16 sl17 sl18 sl19 sl20 sl21 sl22 sl23 : Array (Option Value)} {och kVh dch pmh cdh cth oc0 kV0 dc0 pm0 cd0 ct0 oc1 kV1 dc1 pm1 cd1 ct1 oc2 kV2 dc2 pm2 cd2 ct2 oc3 kV3 dc3 pm3 cd3 ct3 oc4 kV4 dc4 pm4 cd4 ct4 oc5 kV5 dc5 pm5 cd5 ct5 oc6 kV6 dc6 pm6 cd6 ct6 oc7 kV7 dc7 pm7 cd7 ct7 oc8 kV8 dc8 pm8 cd8 ct8 oc9 kV9 dc9 pm9 cd9 ct9 oc10 kV10 dc10 pm10 cd10 ct10 oc11 kV11 dc11 pm11 cd11 ct11 oc12 kV12 dc12 pm12 cd12 ct12 oc13 kV13 dc13 pm13 cd13 ct13 oc14 kV14 dc14 pm14 cd14 ct14 oc15 kV15 dc15 pm15 cd15 ct15 oc16 kV16 dc16 pm16 cd16 ct16 oc17 kV17 dc17 pm17 cd17 ct17 oc18 kV18 dc18 pm18 cd18 ct18 oc19 kV19 dc19 pm19 cd19 ct19 oc20 kV20 dc20 pm20 cd20 ct20 oc21 kV21 dc21 pm21 cd21 ct21 oc22 kV22 dc22 pm22 cd22 ct22 oc23 kV23 dc23 pm23 cd23 ct23 : Value} {tv0 tv1 tv2 : Tok}
    (aH : PySem.W.nsIn K mainGlobals "Hall" = some (some (.ref C)))
    (ah : PySem.W.findIn K (.ref C) "__init__" = some (some (.ref fh)))
    (ih : PySem.W.isFn K (.ref fh) = true)
    (lh : K.lookup fh = some ⟨och, odh, .func (PySem.W.fnOf "__init__" "Hall.__init__" (defArgs s_Hall_init) (defBody s_Hall_init) (defScope s_Hall_init) .none kVh dch pmh anh cdh cth), slh⟩)
    (ch : PySem.W.codeIn K cdh "Hall.__init__" = true)
    (kh : PySem.W.keepIn K (.ref fh) = true)
    (a0 : PySem.W.nsIn K mainGlobals "ends_right" = some (some (.ref f0)))
    (l0 : K.lookup f0 = some ⟨oc0, od0, .func (PySem.W.fnOf "ends_right" "ends_right" (defArgs s_ends_right) (defBody s_ends_right) (defScope s_ends_right) .none kV0 dc0 pm0 an0 cd0 ct0), sl0⟩)
    (c0 : PySem.W.codeIn K cd0 "ends_right" = true)
    (k0 : PySem.W.keepIn K (.ref f0) = true)
    (a1 : PySem.W.nsIn K mainGlobals "made_right" = some (some (.ref f1)))
    (l1 : K.lookup f1 = some ⟨oc1, od1, .func (PySem.W.fnOf "made_right" "made_right" (defArgs s_made_right) (defBody s_made_right) (defScope s_made_right) .none kV1 dc1 pm1 an1 cd1 ct1), sl1⟩)
    (c1 : PySem.W.codeIn K cd1 "made_right" = true)
    (k1 : PySem.W.keepIn K (.ref f1) = true)
    (a2 : PySem.W.nsIn K mainGlobals "table_right" = some (some (.ref f2)))
    (l2 : K.lookup f2 = some ⟨oc2, od2, .func (PySem.W.fnOf "table_right" "table_right" (defArgs s_table_right) (defBody s_table_right) (defScope s_table_right) .none kV2 dc2 pm2 an2 cd2 ct2), sl2⟩)
    (c2 : PySem.W.codeIn K cd2 "table_right" = true)
    (k2 : PySem.W.keepIn K (.ref f2) = true)
    (a3 : PySem.W.nsIn K mainGlobals "rests_right" = some (some (.ref f3)))
    (l3 : K.lookup f3 = some ⟨oc3, od3, .func (PySem.W.fnOf "rests_right" "rests_right" (defArgs s_rests_right) (defBody s_rests_right) (defScope s_rests_right) .none kV3 dc3 pm3 an3 cd3 ct3), sl3⟩)
    (c3 : PySem.W.codeIn K cd3 "rests_right" = true)
    (k3 : PySem.W.keepIn K (.ref f3) = true)
    (a4 : PySem.W.nsIn K mainGlobals "threes_right" = some (some (.ref f4)))
    (l4 : K.lookup f4 = some ⟨oc4, od4, .func (PySem.W.fnOf "threes_right" "threes_right" (defArgs s_threes_right) (defBody s_threes_right) (defScope s_threes_right) .none kV4 dc4 pm4 an4 cd4 ct4), sl4⟩)
    (c4 : PySem.W.codeIn K cd4 "threes_right" = true)
    (k4 : PySem.W.keepIn K (.ref f4) = true)
    (a5 : PySem.W.nsIn K mainGlobals "hall_right" = some (some (.ref f5)))
    (l5 : K.lookup f5 = some ⟨oc5, od5, .func (PySem.W.fnOf "hall_right" "hall_right" (defArgs s_hall_right) (defBody s_hall_right) (defScope s_hall_right) .none kV5 dc5 pm5 an5 cd5 ct5), sl5⟩)
    (c5 : PySem.W.codeIn K cd5 "hall_right" = true)
    (k5 : PySem.W.keepIn K (.ref f5) = true)
    (a6 : PySem.W.nsIn K mainGlobals "lists_right" = some (some (.ref f6)))
    (l6 : K.lookup f6 = some ⟨oc6, od6, .func (PySem.W.fnOf "lists_right" "lists_right" (defArgs s_lists_right) (defBody s_lists_right) (defScope s_lists_right) .none kV6 dc6 pm6 an6 cd6 ct6), sl6⟩)
    (c6 : PySem.W.codeIn K cd6 "lists_right" = true)
    (k6 : PySem.W.keepIn K (.ref f6) = true)
    (a7 : PySem.W.nsIn K mainGlobals "is_reading" = some (some (.ref f7)))
    (l7 : K.lookup f7 = some ⟨oc7, od7, .func (PySem.W.fnOf "is_reading" "is_reading" (defArgs s_is_reading) (defBody s_is_reading) (defScope s_is_reading) .none kV7 dc7 pm7 an7 cd7 ct7), sl7⟩)
    (c7 : PySem.W.codeIn K cd7 "is_reading" = true)
    (k7 : PySem.W.keepIn K (.ref f7) = true)
    (a8 : PySem.W.nsIn K mainGlobals "_law_cell" = some (some (.ref f8)))
    (l8 : K.lookup f8 = some ⟨oc8, od8, .func (PySem.W.fnOf "_law_cell" "_law_cell" (defArgs s_law_cell) (defBody s_law_cell) (defScope s_law_cell) .none kV8 dc8 pm8 an8 cd8 ct8), sl8⟩)
    (c8 : PySem.W.codeIn K cd8 "_law_cell" = true)
    (k8 : PySem.W.keepIn K (.ref f8) = true)
    (a9 : PySem.W.nsIn K mainGlobals "_law_next" = some (some (.ref f9)))
    (l9 : K.lookup f9 = some ⟨oc9, od9, .func (PySem.W.fnOf "_law_next" "_law_next" (defArgs s_law_next) (defBody s_law_next) (defScope s_law_next) .none kV9 dc9 pm9 an9 cd9 ct9), sl9⟩)
    (c9 : PySem.W.codeIn K cd9 "_law_next" = true)
    (k9 : PySem.W.keepIn K (.ref f9) = true)
    (a10 : PySem.W.nsIn K mainGlobals "_law_sizes" = some (some (.ref f10)))
    (l10 : K.lookup f10 = some ⟨oc10, od10, .func (PySem.W.fnOf "_law_sizes" "_law_sizes" (defArgs s_law_sizes) (defBody s_law_sizes) (defScope s_law_sizes) .none kV10 dc10 pm10 an10 cd10 ct10), sl10⟩)
    (c10 : PySem.W.codeIn K cd10 "_law_sizes" = true)
    (k10 : PySem.W.keepIn K (.ref f10) = true)
    (a11 : PySem.W.nsIn K mainGlobals "_law_closed" = some (some (.ref f11)))
    (l11 : K.lookup f11 = some ⟨oc11, od11, .func (PySem.W.fnOf "_law_closed" "_law_closed" (defArgs s_law_closed) (defBody s_law_closed) (defScope s_law_closed) .none kV11 dc11 pm11 an11 cd11 ct11), sl11⟩)
    (c11 : PySem.W.codeIn K cd11 "_law_closed" = true)
    (k11 : PySem.W.keepIn K (.ref f11) = true)
    (a12 : PySem.W.nsIn K mainGlobals "_law_arrows" = some (some (.ref f12)))
    (l12 : K.lookup f12 = some ⟨oc12, od12, .func (PySem.W.fnOf "_law_arrows" "_law_arrows" (defArgs s_law_arrows) (defBody s_law_arrows) (defScope s_law_arrows) .none kV12 dc12 pm12 an12 cd12 ct12), sl12⟩)
    (c12 : PySem.W.codeIn K cd12 "_law_arrows" = true)
    (k12 : PySem.W.keepIn K (.ref f12) = true)
    (a13 : PySem.W.nsIn K mainGlobals "_law_parts" = some (some (.ref f13)))
    (l13 : K.lookup f13 = some ⟨oc13, od13, .func (PySem.W.fnOf "_law_parts" "_law_parts" (defArgs s_law_parts) (defBody s_law_parts) (defScope s_law_parts) .none kV13 dc13 pm13 an13 cd13 ct13), sl13⟩)
    (c13 : PySem.W.codeIn K cd13 "_law_parts" = true)
    (k13 : PySem.W.keepIn K (.ref f13) = true)
    (a14 : PySem.W.nsIn K mainGlobals "_law_copy" = some (some (.ref f14)))
    (l14 : K.lookup f14 = some ⟨oc14, od14, .func (PySem.W.fnOf "_law_copy" "_law_copy" (defArgs s_law_copy) (defBody s_law_copy) (defScope s_law_copy) .none kV14 dc14 pm14 an14 cd14 ct14), sl14⟩)
    (c14 : PySem.W.codeIn K cd14 "_law_copy" = true)
    (k14 : PySem.W.keepIn K (.ref f14) = true)
    (a15 : PySem.W.nsIn K mainGlobals "_law_hall" = some (some (.ref f15)))
    (l15 : K.lookup f15 = some ⟨oc15, od15, .func (PySem.W.fnOf "_law_hall" "_law_hall" (defArgs s_law_hall) (defBody s_law_hall) (defScope s_law_hall) .none kV15 dc15 pm15 an15 cd15 ct15), sl15⟩)
    (c15 : PySem.W.codeIn K cd15 "_law_hall" = true)
    (k15 : PySem.W.keepIn K (.ref f15) = true)
    (a16 : PySem.W.nsIn K mainGlobals "_law_between" = some (some (.ref f16)))
    (l16 : K.lookup f16 = some ⟨oc16, od16, .func (PySem.W.fnOf "_law_between" "_law_between" (defArgs s_law_between) (defBody s_law_between) (defScope s_law_between) .none kV16 dc16 pm16 an16 cd16 ct16), sl16⟩)
    (c16 : PySem.W.codeIn K cd16 "_law_between" = true)
    (k16 : PySem.W.keepIn K (.ref f16) = true)
    (a17 : PySem.W.nsIn K mainGlobals "_law_reading_of" = some (some (.ref f17)))
    (l17 : K.lookup f17 = some ⟨oc17, od17, .func (PySem.W.fnOf "_law_reading_of" "_law_reading_of" (defArgs s_law_reading_of) (defBody s_law_reading_of) (defScope s_law_reading_of) .none kV17 dc17 pm17 an17 cd17 ct17), sl17⟩)
    (c17 : PySem.W.codeIn K cd17 "_law_reading_of" = true)
    (k17 : PySem.W.keepIn K (.ref f17) = true)
    (a18 : PySem.W.nsIn K mainGlobals "_law_out" = some (some (.ref f18)))
    (l18 : K.lookup f18 = some ⟨oc18, od18, .func (PySem.W.fnOf "_law_out" "_law_out" (defArgs s_law_out) (defBody s_law_out) (defScope s_law_out) .none kV18 dc18 pm18 an18 cd18 ct18), sl18⟩)
    (c18 : PySem.W.codeIn K cd18 "_law_out" = true)
    (k18 : PySem.W.keepIn K (.ref f18) = true)
    (a19 : PySem.W.nsIn K mainGlobals "_law_beside" = some (some (.ref f19)))
    (l19 : K.lookup f19 = some ⟨oc19, od19, .func (PySem.W.fnOf "_law_beside" "_law_beside" (defArgs s_law_beside) (defBody s_law_beside) (defScope s_law_beside) .none kV19 dc19 pm19 an19 cd19 ct19), sl19⟩)
    (c19 : PySem.W.codeIn K cd19 "_law_beside" = true)
    (k19 : PySem.W.keepIn K (.ref f19) = true)
    (a20 : PySem.W.nsIn K mainGlobals "_law_drawn_reading" = some (some (.ref f20)))
    (l20 : K.lookup f20 = some ⟨oc20, od20, .func (PySem.W.fnOf "_law_drawn_reading" "_law_drawn_reading" (defArgs s_law_drawn_reading) (defBody s_law_drawn_reading) (defScope s_law_drawn_reading) .none kV20 dc20 pm20 an20 cd20 ct20), sl20⟩)
    (c20 : PySem.W.codeIn K cd20 "_law_drawn_reading" = true)
    (k20 : PySem.W.keepIn K (.ref f20) = true)
    (a21 : PySem.W.nsIn K mainGlobals "_law_good" = some (some (.ref f21)))
    (l21 : K.lookup f21 = some ⟨oc21, od21, .func (PySem.W.fnOf "_law_good" "_law_good" (defArgs s_law_good) (defBody s_law_good) (defScope s_law_good) .none kV21 dc21 pm21 an21 cd21 ct21), sl21⟩)
    (c21 : PySem.W.codeIn K cd21 "_law_good" = true)
    (k21 : PySem.W.keepIn K (.ref f21) = true)
    (a22 : PySem.W.nsIn K mainGlobals "_law_spoilt" = some (some (.ref f22)))
    (l22 : K.lookup f22 = some ⟨oc22, od22, .func (PySem.W.fnOf "_law_spoilt" "_law_spoilt" (defArgs s_law_spoilt) (defBody s_law_spoilt) (defScope s_law_spoilt) .none kV22 dc22 pm22 an22 cd22 ct22), sl22⟩)
    (c22 : PySem.W.codeIn K cd22 "_law_spoilt" = true)
    (k22 : PySem.W.keepIn K (.ref f22) = true)
    (a23 : PySem.W.nsIn K mainGlobals "law" = some (some (.ref f23)))
    (l23 : K.lookup f23 = some ⟨oc23, od23, .func (PySem.W.fnOf "law" "law" (defArgs s_law) (defBody s_law) (defScope s_law) .none kV23 dc23 pm23 an23 cd23 ct23), sl23⟩)
    (c23 : PySem.W.codeIn K cd23 "law" = true)
    (k23 : PySem.W.keepIn K (.ref f23) = true)
    (pg : PySem.W.plainGet K C Str.empty = true)
    (hdi : PySem.W.hasDictIn K C = true)
    (po : PySem.W.plainOver K C = true)
    (sa : PySem.W.findIn K (.ref C) "__setattr__" = some (some (.builtin "object.__setattr__")))
    (mk : PySem.W.makesIn K C = true)
    (kc : PySem.W.keepIn K (.ref C) = true)
    (ne : PySem.W.findIn K (.ref C) "ends" = some none)
    (nr : PySem.W.findIn K (.ref C) "rests" = some none)
    (nt : PySem.W.findIn K (.ref C) "table" = some none)
    (jha : PySem.W.findIn K (.ref C) "__class__" = some (some (.builtin "object.__class__")))
    (jhn : PySem.W.specialIn K (.builtin "object.__class__") "__get__" = some (some (.builtin "getset_descriptor.__get__")))
    (jht : PySem.W.takesIn K (.builtin "object.__class__") = some true)
    (jhm : PySem.W.mroIn K C (.type "object") = some true)
    (v0 : PySem.W.nsIn K mainGlobals "MOST_BOXES" = some (some (.int 6 tv0)))
    (v1 : PySem.W.nsIn K mainGlobals "MOST_ARROWS" = some (some (.int 40 tv1)))
    (v2 : PySem.W.nsIn K mainGlobals "MOST_THINGS" = some (some (.int 40 tv2)))
    (z0 : PySem.W.nsIn K mainGlobals "bool" = some none)
    (z1 : PySem.W.nsIn K mainGlobals "isinstance" = some none)
    (z2 : PySem.W.nsIn K mainGlobals "len" = some none)
    (z3 : PySem.W.nsIn K mainGlobals "list" = some none)
    (z4 : PySem.W.nsIn K mainGlobals "max" = some none)
    (z5 : PySem.W.nsIn K mainGlobals "range" = some none)
    (z6 : PySem.W.nsIn K mainGlobals "tuple" = some none)
    (z7 : PySem.W.nsIn K mainGlobals "zip" = some none) :
    ∃ fd : FuncData, (∀ (s : Shared) (v : Value), BindsTo s fd ⟨[v], []⟩ [("script", v)]) ∧ ∀ base : Heap, K.In base → base.Ns mainGlobals mg → FnOk l.prog w K mg base CX0 7 fa fd ["script"] (spEnd K) := by
  have cls : Cls K C := ⟨pg, hdi, po, sa⟩
  have F23 := fun_mk (st := s_law) l23 c23 k23
  have e := hfa.symm.trans (PySem.W.mg_of X G a23)
  cases e
  have T : Top ⟨l.prog, w, K, C⟩ mg := {
    hall := ⟨cls, ne, nr, nt⟩,
    isa := ⟨cls, jha, jhn, jht, jhm, if_pos (beq_self_eq_true _)⟩,
    g_Hall := PySem.W.mg_of X G aH,
    i_Hall := ⟨_, _, fun_mk (st := s_Hall_init) lh ch kh, ⟨mk, ah, ih, kc⟩⟩,
    d_ends_right := ⟨_, _, fun_mk (st := s_ends_right) l0 c0 k0, PySem.W.mg_of X G a0⟩,
    d_made_right := ⟨_, _, fun_mk (st := s_made_right) l1 c1 k1, PySem.W.mg_of X G a1⟩,
    d_table_right := ⟨_, _, fun_mk (st := s_table_right) l2 c2 k2, PySem.W.mg_of X G a2⟩,
    d_rests_right := ⟨_, _, fun_mk (st := s_rests_right) l3 c3 k3, PySem.W.mg_of X G a3⟩,
    d_threes_right := ⟨_, _, fun_mk (st := s_threes_right) l4 c4 k4, PySem.W.mg_of X G a4⟩,
    d_hall_right := ⟨_, _, fun_mk (st := s_hall_right) l5 c5 k5, PySem.W.mg_of X G a5⟩,
    d_lists_right := ⟨_, _, fun_mk (st := s_lists_right) l6 c6 k6, PySem.W.mg_of X G a6⟩,
    d_is_reading := ⟨_, _, fun_mk (st := s_is_reading) l7 c7 k7, PySem.W.mg_of X G a7⟩,
    d_law_cell := ⟨_, _, fun_mk (st := s_law_cell) l8 c8 k8, PySem.W.mg_of X G a8⟩,
    d_law_next := ⟨_, _, fun_mk (st := s_law_next) l9 c9 k9, PySem.W.mg_of X G a9⟩,
    d_law_sizes := ⟨_, _, fun_mk (st := s_law_sizes) l10 c10 k10, PySem.W.mg_of X G a10⟩,
    d_law_closed := ⟨_, _, fun_mk (st := s_law_closed) l11 c11 k11, PySem.W.mg_of X G a11⟩,
    d_law_arrows := ⟨_, _, fun_mk (st := s_law_arrows) l12 c12 k12, PySem.W.mg_of X G a12⟩,
    d_law_parts := ⟨_, _, fun_mk (st := s_law_parts) l13 c13 k13, PySem.W.mg_of X G a13⟩,
    d_law_copy := ⟨_, _, fun_mk (st := s_law_copy) l14 c14 k14, PySem.W.mg_of X G a14⟩,
    d_law_hall := ⟨_, _, fun_mk (st := s_law_hall) l15 c15 k15, PySem.W.mg_of X G a15⟩,
    d_law_between := ⟨_, _, fun_mk (st := s_law_between) l16 c16 k16, PySem.W.mg_of X G a16⟩,
    d_law_reading_of := ⟨_, _, fun_mk (st := s_law_reading_of) l17 c17 k17, PySem.W.mg_of X G a17⟩,
    d_law_out := ⟨_, _, fun_mk (st := s_law_out) l18 c18 k18, PySem.W.mg_of X G a18⟩,
    d_law_beside := ⟨_, _, fun_mk (st := s_law_beside) l19 c19 k19, PySem.W.mg_of X G a19⟩,
    d_law_drawn_reading := ⟨_, _, fun_mk (st := s_law_drawn_reading) l20 c20 k20, PySem.W.mg_of X G a20⟩,
    d_law_good := ⟨_, _, fun_mk (st := s_law_good) l21 c21 k21, PySem.W.mg_of X G a21⟩,
    d_law_spoilt := ⟨_, _, fun_mk (st := s_law_spoilt) l22 c22 k22, PySem.W.mg_of X G a22⟩,
    d_law := ⟨_, _, fun_mk (st := s_law) l23 c23 k23, PySem.W.mg_of X G a23⟩,
    c_MOST_BOXES := ⟨_, PySem.W.mg_of X G v0⟩,
    c_MOST_ARROWS := ⟨_, PySem.W.mg_of X G v1⟩,
    c_MOST_THINGS := ⟨_, PySem.W.mg_of X G v2⟩,
    b_bool := PySem.W.mg_none_of X G z0,
    b_isinstance := PySem.W.mg_none_of X G z1,
    b_len := PySem.W.mg_none_of X G z2,
    b_list := PySem.W.mg_none_of X G z3,
    b_max := PySem.W.mg_none_of X G z4,
    b_range := PySem.W.mg_none_of X G z5,
    b_tuple := PySem.W.mg_none_of X G z6,
    b_zip := PySem.W.mg_none_of X G z7 }
  refine ⟨PySem.W.fnOf "law" "law" (defArgs s_law) (defBody s_law) (defScope s_law) .none kV23 dc23 pm23 an23 cd23 ct23, fun s v => .of_eq rfl, fun base _ _ => ?_⟩
  have h_ends_right := k_ends_right (base := base) T
  have h_made_right := k_made_right (base := base) T
  have h_table_right := k_table_right (base := base) T h_made_right
  have h_rests_right := k_rests_right (base := base) T
  have h_threes_right := k_threes_right (base := base) T
  have h_hall_right := k_hall_right (base := base) T h_ends_right h_table_right h_rests_right h_threes_right
  have h_Hall_init := k_Hall_init (base := base) T h_hall_right
  have h_lists_right := k_lists_right (base := base) T
  have h_is_reading := k_is_reading (base := base) T h_lists_right
  have h_law_cell := k_law_cell (base := base) T
  have h_law_next := k_law_next (base := base) T
  have h_law_sizes := k_law_sizes (base := base) T h_law_cell
  have h_law_closed := k_law_closed (base := base) T
  have h_law_arrows := k_law_arrows (base := base) T h_law_cell h_law_next h_law_closed
  have h_law_parts := k_law_parts (base := base) T h_law_sizes h_law_arrows
  have h_law_copy := k_law_copy (base := base) T
  have h_law_hall := k_law_hall (base := base) T h_Hall_init
  have h_law_between := k_law_between (base := base) T
  have h_law_reading_of := k_law_reading_of (base := base) T
  have h_law_out := k_law_out (base := base) T h_law_between
  have h_law_beside := k_law_beside (base := base) T
  have h_law_drawn_reading := k_law_drawn_reading (base := base) T h_law_cell h_law_reading_of h_law_out h_law_beside
  have h_law_good := k_law_good (base := base) T
  have h_law_spoilt := k_law_spoilt (base := base) T
  exact (F23.ok sc_law (len_law ⟨l.prog, w, K, C⟩) fun cdv A outer s H vs Q E hr q => ⟨t_law ⟨l.prog, w, K, C⟩, d_law T h_is_reading h_law_cell h_law_parts h_law_copy h_law_hall h_law_drawn_reading h_law_good h_law_spoilt _ cdv A outer s H E hr, run_law ⟨l.prog, w, K, C⟩ vs H Q E q⟩).imp (fun vs H Q E q => end_law (c := ⟨l.prog, w, K, C⟩) vs H Q E q)
theorem walk {l : PySem.W.OpenLaw} {q : Program} {loose : List Str} {XP : (Str → Option Value) → Heap → Prop} {YP : World → Heap → Prop} {d : DefRec} {K : Params → PySem.W.Frag} (hn : l.most = some 63) (hdf : d.params.defaults = [])
    (hY : ∀ (w : World) (h : Heap), YP w h → (K w.params).In h)
    (F : ∀ (w : World) (mg : Str → Option Value) (fa : Addr) (h : Heap), (K w.params).In h → h.Ns mainGlobals mg → mg d.name = some (.ref fa) →
      ∃ fd : FuncData, (∀ (s : Shared) (u : Value), BindsTo s fd ⟨[u], []⟩ [("script", u)]) ∧ ∀ base : Heap, (K w.params).In base → base.Ns mainGlobals mg → FnOk l.prog w (K w.params) mg base CX0 7 fa fd ["script"] (spEnd (K w.params))) :
    PySem.W.WalkO q loose XP YP l.row.toRowW d [] (fun f vs => PySem.call f vs) :=
  L2.walk_ofK (n := 63) (k := 7) (x := "script") (CX := CX0) (sp := spEnd) hn (by decide) hdf ⟨rfl, by decide, by decide⟩ hY F (fun _ _ a ns _ _ hS => ⟨a, ns, rfl, hS, fun _ => rfl⟩) fun _ _ _ _ z => z
end Law
open PySem PySem.W PyProof.Rows
set_option maxRecDepth 100000 in
set_option maxHeartbeats 0 in
theorem PySem.Challenge.cw_arrowhall_k09_readings_looked_at_holds : PySem.Challenge.rw_arrowhall_k09_readings_looked_at.Holds := by
  w_on; o_law; k_head; (case hw => w_witness2)
  k_fill
  refine Law.walk (l := PySem.Challenge.rw_arrowhall_k09_readings_looked_at) rfl rfl (fun w h Y => PySem.W.kIn_of Y) ?F
  case F =>
    intro w mg fa h KX G hmg
    refine' Law.all_mk KX G hmg ?aH ?ah ?ih ?lh ?ch ?kh ?a0 ?l0 ?c0 ?k0 ?a1 ?l1 ?c1 ?k1 ?a2 ?l2 ?c2 ?k2 ?a3 ?l3 ?c3 ?k3 ?a4 ?l4 ?c4 ?k4 ?a5 ?l5 ?c5 ?k5 ?a6 ?l6 ?c6 ?k6 ?a7 ?l7 ?c7 ?k7 ?a8 ?l8 ?c8 ?k8 ?a9 ?l9 ?c9 ?k9 ?a10 ?l10 ?c10 ?k10 ?a11 ?l11 ?c11 ?k11 ?a12 ?l12 ?c12 ?k12 ?a13 ?l13 ?c13 ?k13 ?a14 ?l14 ?c14 ?k14 ?a15 ?l15 ?c15 ?k15 ?a16 ?l16 ?c16 ?k16 ?a17 ?l17 ?c17 ?k17 ?a18 ?l18 ?c18 ?k18 ?a19 ?l19 ?c19 ?k19 ?a20 ?l20 ?c20 ?k20 ?a21 ?l21 ?c21 ?k21 ?a22 ?l22 ?c22 ?k22 ?a23 ?l23 ?c23 ?k23 ?pg ?hdi ?po ?sa ?mk ?kc ?ne ?nr ?nt ?jha ?jhn ?jht ?jhm ?v0 ?v1 ?v2 ?z0 ?z1 ?z2 ?z3 ?z4 ?z5 ?z6 ?z7
    (case aH => k_is)
    (case ah => k_is)
    (case ih => k_is)
    (case lh => k_is)
    (case ch => k_is)
    (case kh => k_is)
    (case a0 => k_is)
    (case l0 => k_is)
    (case c0 => k_is)
    (case k0 => k_is)
    (case a1 => k_is)
    (case l1 => k_is)
    (case c1 => k_is)
    (case k1 => k_is)
    (case a2 => k_is)
    (case l2 => k_is)
    (case c2 => k_is)
    (case k2 => k_is)
    (case a3 => k_is)
    (case l3 => k_is)
    (case c3 => k_is)
    (case k3 => k_is)
    (case a4 => k_is)
    (case l4 => k_is)
    (case c4 => k_is)
    (case k4 => k_is)
    (case a5 => k_is)
    (case l5 => k_is)
    (case c5 => k_is)
    (case k5 => k_is)
    (case a6 => k_is)
    (case l6 => k_is)
    (case c6 => k_is)
    (case k6 => k_is)
    (case a7 => k_is)
    (case l7 => k_is)
    (case c7 => k_is)
    (case k7 => k_is)
    (case a8 => k_is)
    (case l8 => k_is)
    (case c8 => k_is)
    (case k8 => k_is)
    (case a9 => k_is)
    (case l9 => k_is)
    (case c9 => k_is)
    (case k9 => k_is)
    (case a10 => k_is)
    (case l10 => k_is)
    (case c10 => k_is)
    (case k10 => k_is)
    (case a11 => k_is)
    (case l11 => k_is)
    (case c11 => k_is)
    (case k11 => k_is)
    (case a12 => k_is)
    (case l12 => k_is)
    (case c12 => k_is)
    (case k12 => k_is)
    (case a13 => k_is)
    (case l13 => k_is)
    (case c13 => k_is)
    (case k13 => k_is)
    (case a14 => k_is)
    (case l14 => k_is)
    (case c14 => k_is)
    (case k14 => k_is)
    (case a15 => k_is)
    (case l15 => k_is)
    (case c15 => k_is)
    (case k15 => k_is)
    (case a16 => k_is)
    (case l16 => k_is)
    (case c16 => k_is)
    (case k16 => k_is)
    (case a17 => k_is)
    (case l17 => k_is)
    (case c17 => k_is)
    (case k17 => k_is)
    (case a18 => k_is)
    (case l18 => k_is)
    (case c18 => k_is)
    (case k18 => k_is)
    (case a19 => k_is)
    (case l19 => k_is)
    (case c19 => k_is)
    (case k19 => k_is)
    (case a20 => k_is)
    (case l20 => k_is)
    (case c20 => k_is)
    (case k20 => k_is)
    (case a21 => k_is)
    (case l21 => k_is)
    (case c21 => k_is)
    (case k21 => k_is)
    (case a22 => k_is)
    (case l22 => k_is)
    (case c22 => k_is)
    (case k22 => k_is)
    (case a23 => k_is)
    (case l23 => k_is)
    (case c23 => k_is)
    (case k23 => k_is)
    (case pg => k_is)
    (case hdi => k_is)
    (case po => k_is)
    (case sa => k_is)
    (case mk => k_is)
    (case kc => k_is)
    (case ne => k_is)
    (case nr => k_is)
    (case nt => k_is)
    (case jha => k_is)
    (case jhn => k_is)
    (case jht => k_is)
    (case jhm => k_is)
    (case v0 => k_is)
    (case v1 => k_is)
    (case v2 => k_is)
    (case z0 => k_is)
    (case z1 => k_is)
    (case z2 => k_is)
    (case z3 => k_is)
    (case z4 => k_is)
    (case z5 => k_is)
    (case z6 => k_is)
    (case z7 => k_is)
