import PyProof.Rows.All
import Wide.All
import OpenK.AllK
import Wide.FinOn
import KE.KStateDown
import Lean
import HandS.Base
import HandS.Call
import HandS.List
import HandS.Comp
import HandS.Ends
import HandS.Dict
import HandS.Iter
import HandS.More
import HandS.Words
import HandS.WordsExc
import HandS.Exc
import HandS.ExcOwn
import HandS.TryOnly
import HandS.Wide
import HandS.IsInst
import HandS.Defaults
import HandS.Style
import HandS.TupAny
import HandS.TupMul
import HandS.Deep
import HandS.Conv
import HandS.Text
import HandS.RaiseMore
import KE.SortData
import HandS.Head0
import HandS.Head1
import HandS.Head2
import HandS.HeadEnd
import HandS.HeadHook1
import HandS.HeadHook2
import HandS.Lambda
import KE.KNestM
import HandS.Zip
import KE.GoesMore
import KE.KRevSl
import PyProof.StrLawsRepr
import PyProof.Rows.Digits
import PySem.Challenge.RW_rankrows_k38_whole_lots_by_their_size
set_option Elab.async false
set_option linter.all false
set_option maxRecDepth 100000
set_option maxHeartbeats 4000000
/-! A calculus over plain data: what a def does, told by values (PyData) in slots; the heap is kept out of sight. -/
namespace R
open PySem PySem.Spec PyProof.Rows L2

set_option autoImplicit false
abbrev D := PyData
abbrev St := L2.St

/-! ### 1. data at a value -/
/-- a tuple of the written part -/
def KT (K : PySem.W.Frag) (a : Addr) (xs : List V) : Prop :=
  ∃ (o : Obj) (its : Array Value) (n : Nat), K.lookup a = some o ∧ o.cls = .type "tuple" ∧ o.data = .seq its n ∧ its.size ≤ sizeLine ∧ Vals xs its.toList
/-- no code object's table -/
def noT (u : HO) : Prop := ∀ ps, u ≠ .tbl ps
@[simp] theorem noT_lst {xs : List V} : noT (.lst xs) := fun _ z => by cases z
@[simp] theorem noT_tup {xs : List V} : noT (.tup xs) := fun _ z => by cases z
/-- nothing stands at a, or a table -/
def No (H : Hp) (a : Addr) : Prop := ∀ u, noT u → H a ≠ some u
theorem No.of {H : Hp} {a : Addr} (h : H a = none) : No H a := fun u _ z => by rw [h] at z; cases z
theorem No.lst {H : Hp} {a : Addr} {xs : List V} (h : No H a) (e : H a = some (.lst xs)) : False := h _ noT_lst e
theorem No.tup {H : Hp} {a : Addr} {xs : List V} (h : No H a) (e : H a = some (.tup xs)) : False := h _ noT_tup e
theorem No.ne {H : Hp} {a b : Addr} {u : HO} (h : No H b) (n : noT u) (e : H a = some u) : a ≠ b := fun z => h u n (z ▸ e)
/-- nothing nested deeper than n, no dict -/
@[simp] def Shp : Nat → PyData → Prop
  | _, .none => True
  | _, .bool _ => True
  | _, .int _ => True
  | _, .str x => PyData.strOk x = true
  | n + 1, .list xs => ∀ x ∈ xs, Shp n x
  | n + 1, .tuple xs => ∀ x ∈ xs, Shp n x
  | 0, .list _ => False
  | 0, .tuple _ => False
  | _, .dict _ => False
/-- the same, any text -/
@[simp] def Nd : Nat → PyData → Prop
  | _, .none => True
  | _, .bool _ => True
  | _, .int _ => True
  | _, .str x => True
  | n + 1, .list xs => ∀ x ∈ xs, Nd n x
  | n + 1, .tuple xs => ∀ x ∈ xs, Nd n x
  | 0, .list _ => False
  | 0, .tuple _ => False
  | _, .dict _ => False
theorem Shp.nd : ∀ (n : Nat) (d : PyData), Shp n d → Nd n d
  | n, .none, _ => by cases n <;> trivial
  | n, .bool _, _ => by cases n <;> trivial
  | n, .int _, _ => by cases n <;> trivial
  | n, .str _, _ => by cases n <;> trivial
  | n + 1, .list xs, h => fun x hx => Shp.nd n x (h x hx)
  | n + 1, .tuple xs, h => fun x hx => Shp.nd n x (h x hx)
  | 0, .list _, h => (h : False).elim
  | 0, .tuple _, h => (h : False).elim
  | n, .dict _, h => by cases n <;> exact (h : False).elim
/-- a def of the module by its name; any object by its address -/
abbrev fnD (x : Str) : PyData := .dict [(.str x, .none)]
abbrev obD (a : Addr) : PyData := .dict [(.int (a : Nat), .none)]
mutual
/-- the data d stands at v; no list or tuple of it at an address of Av -/
inductive Rp (K : PySem.W.Frag) (Av : Addr → Prop) (H : Hp) : V → PyData → Prop
  | non : Rp K Av H .non .none
  | bl (b : Bool) : Rp K Av H (.bl b) (.bool b)
  | int (i : Int) : Rp K Av H (.int i) (.int i)
  | str (x : Str) : Rp K Av H (.str x) (.str x)
  | lst {a : Addr} {xs : List V} {ds : List PyData} : ¬ Av a → H a = some (.lst xs) → Rps K Av H xs ds → Rp K Av H (.ref a) (.list ds)
  | tup {a : Addr} {xs : List V} {ds : List PyData} : ((¬ Av a ∧ H a = some (.tup xs)) ∨ KT K a xs) → Rps K Av H xs ds → Rp K Av H (.ref a) (.tuple ds)
  | fn (x : Str) : Rp K Av H (.ref (He.ga K x)) (fnD x)
  | ob (a : Addr) : Rp K Av H (.ref a) (obD a)
inductive Rps (K : PySem.W.Frag) (Av : Addr → Prop) (H : Hp) : List V → List PyData → Prop
  | nil : Rps K Av H [] []
  | cons {v : V} {vs : List V} {d : PyData} {ds : List PyData} : Rp K Av H v d → Rps K Av H vs ds → Rps K Av H (v :: vs) (d :: ds)
end
section
variable {K : PySem.W.Frag} {Av Av' : Addr → Prop} {H H' : Hp}
mutual
theorem Rp.mono (hA : ∀ a, Av' a → Av a ∨ No H a) (hH : ∀ a u, ¬ Av a → noT u → H a = some u → H' a = some u) : ∀ (d : PyData) (v : V), Rp K Av H v d → Rp K Av' H' v d
  | .none, _, h => by cases h; exact .non
  | .bool b, _, h => by cases h; exact .bl b
  | .int i, _, h => by cases h; exact .int i
  | .str x, _, h => by cases h; exact .str x
  | .list ds, _, h => by
    cases h with
    | lst na rd r =>
      refine .lst (fun z => ?_) (hH _ _ na noT_lst rd) (Rps.mono hA hH ds _ r)
      rcases hA _ z with z | z
      · exact na z
      · exact z.lst rd
  | .tuple ds, _, h => by
    cases h with
    | tup h1 r =>
      refine .tup ?_ (Rps.mono hA hH ds _ r)
      rcases h1 with ⟨na, rd⟩ | k
      · refine .inl ⟨fun z => ?_, hH _ _ na noT_tup rd⟩
        rcases hA _ z with z | z
        · exact na z
        · exact z.tup rd
      · exact .inr k
  | .dict _, _, h => by
    cases h with
    | fn x => exact .fn x
    | ob a => exact .ob a
theorem Rps.mono (hA : ∀ a, Av' a → Av a ∨ No H a) (hH : ∀ a u, ¬ Av a → noT u → H a = some u → H' a = some u) : ∀ (ds : List PyData) (vs : List V), Rps K Av H vs ds → Rps K Av' H' vs ds
  | [], _, h => by cases h; exact .nil
  | d :: ds, _, h => by
    cases h with
    | cons h1 h2 => exact .cons (Rp.mono hA hH d _ h1) (Rps.mono hA hH ds _ h2)
end
mutual
theorem Rp.dp : ∀ (n : Nat) (d : PyData) (v : V), Nd n d → Rp K Av H v d → Dp K H v d
  | _, .none, _, _, h => by cases h; exact .non
  | _, .bool b, _, _, h => by cases h; exact .bl b
  | _, .int i, _, _, h => by cases h; exact .int i
  | _, .str x, _, _, h => by cases h; exact .str x
  | n + 1, .list ds, _, q, h => by
    cases h with
    | lst na rd r => exact .lst (SqL.of rd) (Rps.dp n ds _ q r)
  | n + 1, .tuple ds, _, q, h => by
    cases h with
    | tup h1 r =>
      rcases h1 with ⟨na, rd⟩ | k
      · exact .tup (SqT.of rd) (Rps.dp n ds _ q r)
      · exact .tup (.inr k) (Rps.dp n ds _ q r)
  | 0, .list _, _, q, _ => (q : False).elim
  | 0, .tuple _, _, q, _ => (q : False).elim
  | n, .dict _, _, q, _ => by cases n <;> exact (q : False).elim
theorem Rps.dp : ∀ (n : Nat) (ds : List PyData) (vs : List V), (∀ x ∈ ds, Nd n x) → Rps K Av H vs ds → DpAll K H vs ds
  | _, [], _, _, h => by cases h; exact .nil
  | n, d :: ds, _, q, h => by
    cases h with
    | cons h1 h2 => exact .cons (Rp.dp n d _ (q d List.mem_cons_self) h1) (Rps.dp n ds _ (fun x hx => q x (List.mem_cons_of_mem _ hx)) h2)
end
theorem Rps.length : ∀ {ds : List PyData} {vs : List V}, Rps K Av H vs ds → vs.length = ds.length
  | [], _, h => by cases h; rfl
  | d :: ds, _, h => by
    cases h with
    | cons h1 h2 => exact congrArg Nat.succ (Rps.length h2)
theorem Rps.get : ∀ {ds : List PyData} {vs : List V} {i : Nat} {d : PyData}, Rps K Av H vs ds → ds[i]? = some d → ∃ v, vs[i]? = some v ∧ Rp K Av H v d
  | [], _, _, _, _, e => by simp at e
  | x :: ds, _, i, d, h, e => by
    cases h with
    | cons h1 h2 =>
      cases i with
      | zero => simp at e; subst e; exact ⟨_, rfl, h1⟩
      | succ i =>
        obtain ⟨v, e1, e2⟩ := Rps.get (i := i) (d := d) h2 (by simpa using e)
        exact ⟨v, by simpa using e1, e2⟩
theorem Rps.getV : ∀ {ds : List PyData} {vs : List V} {i : Nat} {v : V}, Rps K Av H vs ds → vs[i]? = some v → ∃ d, ds[i]? = some d ∧ Rp K Av H v d
  | [], _, _, _, h, e => by cases h; simp at e
  | x :: ds, _, i, d, h, e => by
    cases h with
    | cons h1 h2 =>
      cases i with
      | zero => simp at e; subst e; exact ⟨_, rfl, h1⟩
      | succ i =>
        obtain ⟨v, e1, e2⟩ := Rps.getV (i := i) (v := d) h2 (by simpa using e)
        exact ⟨v, by simpa using e1, e2⟩
theorem Rps.append : ∀ {ds es : List PyData} {vs us : List V}, Rps K Av H vs ds → Rps K Av H us es → Rps K Av H (vs ++ us) (ds ++ es)
  | [], _, _, _, h, h' => by cases h; exact h'
  | d :: ds, _, _, _, h, h' => by
    cases h with
    | cons h1 h2 => exact .cons h1 (Rps.append h2 h')
theorem Rps.drop : ∀ {ds : List PyData} {vs : List V} (n : Nat), Rps K Av H vs ds → Rps K Av H (vs.drop n) (ds.drop n)
  | _, _, 0, h => h
  | [], _, n + 1, h => by cases h; exact .nil
  | d :: ds, _, n + 1, h => by
    cases h with
    | cons h1 h2 => exact Rps.drop n h2
theorem Rps.take : ∀ {ds : List PyData} {vs : List V} (n : Nat), Rps K Av H vs ds → Rps K Av H (vs.take n) (ds.take n)
  | _, _, 0, h => .nil
  | [], _, n + 1, h => by cases h; exact .nil
  | d :: ds, _, n + 1, h => by
    cases h with
    | cons h1 h2 => exact .cons h1 (Rps.take n h2)
theorem Rps.reverse : ∀ {ds : List PyData} {vs : List V}, Rps K Av H vs ds → Rps K Av H vs.reverse ds.reverse
  | [], _, h => by cases h; exact .nil
  | d :: ds, _, h => by
    cases h with
    | cons h1 h2 => rw [List.reverse_cons, List.reverse_cons]; exact (Rps.reverse h2).append (.cons h1 .nil)
theorem Rps.set {v : V} {d : PyData} (r : Rp K Av H v d) : ∀ {ds : List PyData} {vs : List V} (n : Nat), Rps K Av H vs ds → Rps K Av H (vs.set n v) (ds.set n d)
  | [], _, n, h => by cases h; exact .nil
  | x :: ds, _, 0, h => by
    cases h with
    | cons h1 h2 => exact .cons r h2
  | x :: ds, _, n + 1, h => by
    cases h with
    | cons h1 h2 => exact .cons h1 (Rps.set r n h2)
theorem Rps.dropLast : ∀ {ds : List PyData} {vs : List V}, Rps K Av H vs ds → Rps K Av H vs.dropLast ds.dropLast := fun {ds vs} h => by
  rw [List.dropLast_eq_take, List.dropLast_eq_take, h.length]
  exact h.take _
theorem rps_ints : ∀ (ns : List Int), Rps K Av H (ns.map V.int) (ns.map PyData.int)
  | [] => .nil
  | n :: ns => .cons (.int n) (rps_ints ns)
theorem Rps.intsV : ∀ {ns : List Int} {vs : List V}, Rps K Av H vs (ns.map PyData.int) → vs = ns.map V.int
  | [], _, h => by cases h; rfl
  | n :: ns, _, h => by
    cases h with
    | cons h1 h2 => cases h1; rw [Rps.intsV h2]; rfl
theorem Rps.bools : ∀ {bs : List Bool} {vs : List V}, Rps K Av H vs (bs.map PyData.bool) → vs = bs.map V.bl
  | [], _, h => by cases h; rfl
  | n :: ns, _, h => by
    cases h with
    | cons h1 h2 => cases h1; rw [Rps.bools h2]; rfl
theorem Rps.strsV : ∀ {bs : List Str} {vs : List V}, Rps K Av H vs (bs.map PyData.str) → vs = bs.map V.str
  | [], _, h => by cases h; rfl
  | n :: ns, _, h => by
    cases h with
    | cons h1 h2 => cases h1; rw [Rps.strsV h2]; rfl
end

/-! ### 2. the state: slots -/
/-- what a slot holds: data; a list that this def alone owns (it may be changed); the bag -/
inductive En where
  | im (d : D) | ow (ds : List D) | bag
abbrev Rho := List (Option En)
/-- the bag of draws at p, its cells at c -/
def BagOk (H : Hp) (p c : Addr) : Prop :=
  p ≠ c ∧ ∃ (ns : List Int) (i j k l : Int), H p = some (.lst [.ref c, .int i, .int j, .int k, .int l]) ∧ H c = some (.lst (ns.map V.int)) ∧ 0 ≤ i
/-- what stands fast in a def: the written part, what its data may not touch, the heap at its entry, the bag -/
structure Gh where
  K : PySem.W.Frag
  S : Addr → Prop
  H0 : Hp
  bg : Option (Addr × Addr)
/-- the tables of code objects that the written part's defs have: each with the name that a lambda in the def bears -/
def tabOf (K : PySem.W.Frag) (o : Obj) : Option (Addr × Addr × Str) := match o.data with
  | .func fd => (match fd.code with
    | .ref c => (match K.lookup c with
      | some oc => (match oc.data with
        | .fields vs => (match (vs[11]? : Option Value) with
          | some (.ref P) => some (c, P, (envOfC fd.qualname fd.scope 0 0 fd.code).qual ++ "<lambda>")
          | _ => none)
        | _ => none)
      | none => none)
    | _ => none)
  | _ => none
def tabK (K : PySem.W.Frag) : List (Addr × Addr × Str) := K.filterMap fun p => tabOf K p.2
def Gh.T (G : Gh) : List (Addr × Str) := (tabK G.K).map (·.2)
def Gh.isP (G : Gh) (a : Addr) : Prop := ∃ c, G.bg = some (a, c)
def Gh.isB (G : Gh) (a : Addr) : Prop := ∃ p c, G.bg = some (p, c) ∧ (a = p ∨ a = c)
theorem Gh.isP.b {G : Gh} {a : Addr} (h : G.isP a) : G.isB a := let ⟨c, e⟩ := h; ⟨a, c, e, .inl rfl⟩
def Ow (ρ : Rho) (σ : St) (a : Addr) : Prop := ∃ (i : Nat) (ds : List D), ρ[i]? = some (some (.ow ds)) ∧ σ[i]? = some (some (.ref a))
def Gh.av (G : Gh) (ρ : Rho) (σ : St) (a : Addr) : Prop := G.S a ∨ G.isB a ∨ Ow ρ σ a
structure Sta (G : Gh) (σ : St) (H : Hp) (ρ : Rho) : Prop where
  len : σ.length = ρ.length
  im : ∀ (i : Nat) (d : D), ρ[i]? = some (some (.im d)) → ∃ v, σ[i]? = some (some v) ∧ Rp G.K (G.av ρ σ) H v d
  ow : ∀ (i : Nat) (ds : List D), ρ[i]? = some (some (.ow ds)) → ∃ (p : Addr) (vs : List V), σ[i]? = some (some (.ref p)) ∧ H p = some (.lst vs) ∧ Rps G.K (G.av ρ σ) H vs ds ∧ No G.H0 p ∧ ¬ G.S p ∧ ¬ G.isB p
  uq : ∀ (i j : Nat) (ds es : List D) (p : Addr), ρ[i]? = some (some (.ow ds)) → ρ[j]? = some (some (.ow es)) → σ[i]? = some (some (.ref p)) → σ[j]? = some (some (.ref p)) → i = j
  bag : ∀ (i : Nat), ρ[i]? = some (some .bag) → ∃ p c, G.bg = some (p, c) ∧ σ[i]? = some (some (.ref p))
  keep : ∀ a u, ¬ G.isP a → noT u → G.H0 a = some u → H a = some u
  dom : ∀ a, G.S a → ¬ No H a
  bok : ∀ p c, G.bg = some (p, c) → BagOk H p c
  tok : LamX.Tabs G.T H
/-- the heap goes on: all that stood stands, but for the bag -/
structure Ext (G : Gh) (H H' : Hp) : Prop where
  keep : ∀ a u, ¬ G.isP a → noT u → H a = some u → H' a = some u
  bok : ∀ p c, G.bg = some (p, c) → BagOk H p c → BagOk H' p c
  tok : LamX.Tabs G.T H → LamX.Tabs G.T H'
section
variable {G : Gh} {σ : St} {H H1 H2 H' : Hp} {ρ : Rho}
theorem Ext.refl : Ext G H H := ⟨fun _ _ _ _ e => e, fun _ _ _ e => e, id⟩
theorem Ext.trans (a : Ext G H H1) (b : Ext G H1 H2) : Ext G H H2 := ⟨fun x u n t e => b.keep x u n t (a.keep x u n t e), fun p c e q => b.bok p c e (a.bok p c e q), fun t => b.tok (a.tok t)⟩
theorem Sta.avdom (s : Sta G σ H ρ) {a : Addr} (h : G.av ρ σ a) : ¬ No H a := by
  rcases h with h | ⟨p, c, e, h⟩ | ⟨i, ds, h1, h2⟩
  · exact s.dom a h
  · obtain ⟨_, ns, i, j, k, l, e1, e2, _⟩ := s.bok p c e
    rcases h with h | h
    · exact fun z => z.lst (h ▸ e1)
    · exact fun z => z.lst (h ▸ e2)
  · obtain ⟨p, vs, e1, e2, _⟩ := s.ow i ds h1
    rw [h2] at e1; cases e1
    exact fun z => z.lst e2
theorem BagOk.some {p c : Addr} (h : BagOk H p c) : ¬ No H p ∧ ¬ No H c := by
  obtain ⟨_, ns, i, j, k, l, e1, e2, _⟩ := h
  exact ⟨fun z => z.lst e1, fun z => z.lst e2⟩
/-- fresh later is fresh now -/
theorem Sta.fresh (s : Sta G σ H ρ) (x : Ext G H H') {p : Addr} (h : No H' p) : No H p := fun u n e => by
  by_cases hp : G.isP p
  · obtain ⟨c, ec⟩ := hp
    exact (x.bok p c ec (s.bok p c ec)).some.1 h
  · exact h u n (x.keep p u hp n e)
theorem Sta.noav (s : Sta G σ H ρ) {p : Addr} (h : No H p) : ¬ G.av ρ σ p := fun z => s.avdom z h
theorem Rp.ext (x : Ext G H H') {v : V} {d : D} (h : Rp G.K (G.av ρ σ) H v d) : Rp G.K (G.av ρ σ) H' v d :=
  Rp.mono (fun a z => .inl z) (fun a u n t e => x.keep a u (fun z => n (.inr (.inl z.b))) t e) d v h
theorem Rps.ext (x : Ext G H H') {v : List V} {d : List D} (h : Rps G.K (G.av ρ σ) H v d) : Rps G.K (G.av ρ σ) H' v d :=
  Rps.mono (fun a z => .inl z) (fun a u n t e => x.keep a u (fun z => n (.inr (.inl z.b))) t e) d v h
theorem Sta.ext (s : Sta G σ H ρ) (x : Ext G H H') : Sta G σ H' ρ where
  len := s.len
  im := fun i d e => let ⟨v, h1, h2⟩ := s.im i d e; ⟨v, h1, h2.ext x⟩
  ow := fun i ds e => let ⟨p, vs, h1, h2, h3, h4, h5, h6⟩ := s.ow i ds e; ⟨p, vs, h1, x.keep p _ (fun z => h6 z.b) noT_lst h2, h3.ext x, h4, h5, h6⟩
  uq := s.uq
  bag := s.bag
  keep := fun a u n t e => x.keep a u n t (s.keep a u n t e)
  dom := fun a h z => s.dom a h (s.fresh x z)
  bok := fun p c e => x.bok p c e (s.bok p c e)
  tok := x.tok s.tok
/-- a new object -/
theorem Sta.new (s : Sta G σ H ρ) {p : Addr} {o : HO} (h : H p = none) : Ext G H (upd H p o) where
  keep := fun a u _ _ e => by rw [upd_ne (ne_of_none e h)]; exact e
  bok := fun q c e b => by
    obtain ⟨n, ns, i, j, k, l, e1, e2, b3⟩ := b
    exact ⟨n, ns, i, j, k, l, by rw [upd_ne (ne_of_none e1 h)]; exact e1, by rw [upd_ne (ne_of_none e2 h)]; exact e2, b3⟩
  tok := fun t => t.ext fun b u e => by rw [upd_ne (ne_of_none e h)]; exact e
end

/-! ### 3. what an expression hands back -/
/-- data; a new list (nobody else knows it); a list that the def owns; the bag -/
inductive W where
  | d (x : D) | fr (xs : List D) | ow (xs : List D) | bag
/-- as data to be read -/
def W.dat : W → Option D
  | .d x => some x
  | .fr xs => some (.list xs)
  | .ow xs => some (.list xs)
  | .bag => none
/-- as data to be kept -/
def W.cln : W → Option D
  | .d x => some x
  | .fr xs => some (.list xs)
  | .ow _ => none
  | .bag => none
@[simp] theorem W.dat_d (x : D) : (W.d x).dat = some x := rfl
@[simp] theorem W.dat_fr (xs : List D) : (W.fr xs).dat = some (.list xs) := rfl
@[simp] theorem W.dat_ow (xs : List D) : (W.ow xs).dat = some (.list xs) := rfl
@[simp] theorem W.dat_bag : W.bag.dat = none := rfl
@[simp] theorem W.cln_d (x : D) : (W.d x).cln = some x := rfl
@[simp] theorem W.cln_fr (xs : List D) : (W.fr xs).cln = some (.list xs) := rfl
def WR (G : Gh) (ρ : Rho) (σ : St) (H H' : Hp) (v : V) : W → Prop
  | .d x => Rp G.K (G.av ρ σ) H' v x
  | .fr xs => ∃ p vs, v = .ref p ∧ No H p ∧ H' p = some (.lst vs) ∧ Rps G.K (fun a => G.av ρ σ a ∨ a = p) H' vs xs
  | .ow xs => ∃ p vs, v = .ref p ∧ Ow ρ σ p ∧ H' p = some (.lst vs) ∧ Rps G.K (G.av ρ σ) H' vs xs
  | .bag => ∃ p c, v = .ref p ∧ G.bg = some (p, c)
section
variable {G : Gh} {σ : St} {H H1 H2 H' : Hp} {ρ : Rho} {v : V} {x : W}
theorem Sta.pne (s : Sta G σ H ρ) {p : Addr} (h : No H p) : ¬ G.isP p := fun z => s.noav h (.inr (.inl z.b))
theorem Sta.ownP (s : Sta G σ H ρ) {p : Addr} (h : Ow ρ σ p) : ¬ G.isP p := fun z => by
  obtain ⟨i, ds, h1, h2⟩ := h
  obtain ⟨q, vs, e1, _, _, _, _, e6⟩ := s.ow i ds h1
  rw [h2] at e1; cases e1
  exact e6 z.b
/-- the heap goes on -/
theorem WR.ext (s : Sta G σ H ρ) (h : WR G ρ σ H H1 v x) (a : Ext G H1 H2) : WR G ρ σ H H2 v x := by
  cases x with
  | d x => exact Rp.ext a h
  | fr xs =>
    obtain ⟨p, vs, e, h1, h2, h3⟩ := h
    exact ⟨p, vs, e, h1, a.keep p _ (s.pne h1) noT_lst h2, Rps.mono (fun _ z => .inl z) (fun b u n t q => a.keep b u (fun z => n (.inl (.inr (.inl z.b)))) t q) _ _ h3⟩
  | ow xs =>
    obtain ⟨p, vs, e, h1, h2, h3⟩ := h
    exact ⟨p, vs, e, h1, a.keep p _ (s.ownP h1) noT_lst h2, h3.ext a⟩
  | bag => exact h
/-- told from further back -/
theorem WR.back (s : Sta G σ H ρ) (a : Ext G H H1) (h : WR G ρ σ H1 H2 v x) : WR G ρ σ H H2 v x := by
  cases x with
  | d x => exact h
  | fr xs =>
    obtain ⟨p, vs, e, h1, h2, h3⟩ := h
    exact ⟨p, vs, e, s.fresh a h1, h2, h3⟩
  | ow xs => exact h
  | bag => exact h
theorem WR.dat (h : WR G ρ σ H H' v x) {d : D} (e : x.dat = some d) {n : Nat} (hn : Nd n d) : Dp G.K H' v d := by
  cases x with
  | d x => cases e; exact Rp.dp n _ _ hn h
  | fr xs =>
    cases e
    obtain ⟨p, vs, e, h1, h2, h3⟩ := h
    subst e
    cases n with
    | zero => exact (hn : False).elim
    | succ n => exact .lst (SqL.of h2) (Rps.dp n _ _ hn h3)
  | ow xs =>
    cases e
    obtain ⟨p, vs, e, h1, h2, h3⟩ := h
    subst e
    cases n with
    | zero => exact (hn : False).elim
    | succ n => exact .lst (SqL.of h2) (Rps.dp n _ _ hn h3)
  | bag => cases e
theorem Rps.less {K : PySem.W.Frag} {Av : Addr → Prop} {H : Hp} {p : Addr} {vs : List V} {ds : List D} (h : Rps K (fun a => Av a ∨ a = p) H vs ds) : Rps K Av H vs ds := Rps.mono (fun _ z => .inl (.inl z)) (fun _ _ _ _ e => e) _ _ h
theorem Rps.more {K : PySem.W.Frag} {Av : Addr → Prop} {H H' : Hp} {p : Addr} {vs : List V} {ds : List D} (h : Rps K Av H vs ds) (hp : No H p) (hH : ∀ a u, H a = some u → H' a = some u) : Rps K (fun a => Av a ∨ a = p) H' vs ds :=
  Rps.mono (fun a z => z.imp id fun e => by rw [e]; exact hp) (fun a u _ _ e => hH a u e) _ _ h
/-- a list that is read -/
theorem WR.lst (h : WR G ρ σ H H' v x) {ds : List D} (e : x.dat = some (.list ds)) : ∃ p vs, v = .ref p ∧ H' p = some (.lst vs) ∧ Rps G.K (G.av ρ σ) H' vs ds := by
  cases x with
  | d x =>
    cases e
    cases h with
    | lst na rd r => exact ⟨_, _, rfl, rd, r⟩
  | fr xs =>
    cases e
    obtain ⟨p, vs, e, h1, h2, h3⟩ := h
    exact ⟨p, vs, e, h2, h3.less⟩
  | ow xs =>
    cases e
    obtain ⟨p, vs, e, h1, h2, h3⟩ := h
    exact ⟨p, vs, e, h2, h3⟩
  | bag => cases e
theorem WR.tup (h : WR G ρ σ H H' v x) {ds : List D} (e : x.dat = some (.tuple ds)) : ∃ p vs, v = .ref p ∧ SqT G.K H' p vs ∧ Rps G.K (G.av ρ σ) H' vs ds := by
  cases x with
  | d x =>
    cases e
    cases h with
    | tup h1 r =>
      refine ⟨_, _, rfl, ?_, r⟩
      rcases h1 with ⟨_, rd⟩ | k
      · exact SqT.of rd
      · exact .inr k
  | fr xs => cases e
  | ow xs => cases e
  | bag => cases e
theorem WR.int (h : WR G ρ σ H H' v x) {i : Int} (e : x.dat = some (.int i)) : v = .int i := by
  cases x with
  | d x => cases e; cases h; rfl
  | fr xs => cases e
  | ow xs => cases e
  | bag => cases e
theorem WR.bl (h : WR G ρ σ H H' v x) {i : Bool} (e : x.dat = some (.bool i)) : v = .bl i := by
  cases x with
  | d x => cases e; cases h; rfl
  | fr xs => cases e
  | ow xs => cases e
  | bag => cases e
theorem WR.str (h : WR G ρ σ H H' v x) {i : Str} (e : x.dat = some (.str i)) : v = .str i := by
  cases x with
  | d x => cases e; cases h; rfl
  | fr xs => cases e
  | ow xs => cases e
  | bag => cases e
theorem WR.cln (s : Sta G σ H ρ) (h : WR G ρ σ H H' v x) {d : D} (e : x.cln = some d) : Rp G.K (G.av ρ σ) H' v d := by
  cases x with
  | d x => cases e; exact h
  | fr xs =>
    cases e
    obtain ⟨p, vs, e, h1, h2, h3⟩ := h
    subst e
    exact .lst (s.noav h1) h2 h3.less
  | ow xs => cases e
  | bag => cases e
end
end R
namespace R
open PySem PySem.Spec PyProof.Rows L2
set_option autoImplicit false
/-! ### 4. judgements: an expression, a test, arguments, told by values -/
abbrev WE := Rho → (W → Prop) → (Str → Prop) → Prop
abbrev WT := Rho → (Bool → Prop) → (Str → Prop) → Prop
abbrev WA := Rho → (List W → Prop) → (Str → Prop) → Prop
def tU (X : Cx) (e : Expr) : TE := fun σ H Q => ∀ (pins : List (Addr × Obj)) (s : Shared), Inv X pins σ H s → wpAny (model X.prog X.w) X.A (eval e X.env) (EP X pins σ Q) X.xe s
def tUT (X : Cx) (e : Expr) : TT := fun σ H Q => ∀ (pins : List (Addr × Obj)) (s : Shared), Inv X pins σ H s → wpAny (model X.prog X.w) X.A (isTrue e X.env (eval e X.env)) (TP X pins σ Q) X.xe s
def tUW (X : Cx) (e : Expr) : TT := fun σ H Q => ∀ (wh : Sem Value) (pins : List (Addr × Obj)) (s : Shared), Inv X pins σ H s → wpAny (model X.prog X.w) X.A (isTrue e X.env wh) (TP X pins σ Q) X.xe s
def tUA (X : Cx) (es : List Expr) : TA := fun σ H Q => ∀ (pos : Pos) (pins : List (Addr × Obj)) (s : Shared), Inv X pins σ H s → wpAny (model X.prog X.w) X.A (spliced (backTo pos (starEach es X.env))) (AP X pins σ Q) X.xe s
section
variable {X : Cx} {e : Expr} {es : List Expr} {σ : St} {H : Hp}
theorem peU : PE X e (tU X e) := ⟨fun pins s σ H Q I h => h pins s I⟩
theorem ptU : PT X e (tUT X e) := ⟨fun pins s σ H Q I h => h pins s I⟩
theorem pwU : PW X e (tUW X e) := ⟨fun wh pins s σ H Q I h => h wh pins s I⟩
theorem paU : PA X es (tUA X es) := ⟨fun pos pins s σ H Q I h => h pos pins s I⟩
theorem peu {t : TE} (h : PE X e t) {Q : VK} (q : t σ H Q) : tU X e σ H Q := fun pins s I => h.run pins s σ H Q I q
theorem ptu {t : TT} (h : PT X e t) {Q : Bool → Hp → Prop} (q : t σ H Q) : tUT X e σ H Q := fun pins s I => h.run pins s σ H Q I q
theorem pwu {t : TT} (h : PW X e t) {Q : Bool → Hp → Prop} (q : t σ H Q) : tUW X e σ H Q := fun wh pins s I => h.run wh pins s σ H Q I q
theorem pau {t : TA} (h : PA X es t) {Q : List V → Hp → Prop} (q : t σ H Q) : tUA X es σ H Q := fun pos pins s I => h.run pos pins s σ H Q I q
theorem tU.mono {Q Q' : VK} (h : tU X e σ H Q) (k : ∀ v H', Q v H' → Q' v H') : tU X e σ H Q' := fun pins s I => thn (h pins s I) fun u s' ⟨v, H', I', r, q⟩ => ⟨v, H', I', r, k v H' q⟩
theorem tUT.mono {Q Q' : Bool → Hp → Prop} (h : tUT X e σ H Q) (k : ∀ v H', Q v H' → Q' v H') : tUT X e σ H Q' := fun pins s I => thn (h pins s I) fun u s' ⟨H', I', q⟩ => ⟨H', I', k u H' q⟩
theorem tUW.mono {Q Q' : Bool → Hp → Prop} (h : tUW X e σ H Q) (k : ∀ v H', Q v H' → Q' v H') : tUW X e σ H Q' := fun wh pins s I => thn (h wh pins s I) fun u s' ⟨H', I', q⟩ => ⟨H', I', k u H' q⟩
theorem tUA.mono {Q Q' : List V → Hp → Prop} (h : tUA X es σ H Q) (k : ∀ v H', Q v H' → Q' v H') : tUA X es σ H Q' := fun pos pins s I => thn (h pos pins s I) fun u s' ⟨v, H', I', r, q⟩ => ⟨v, H', I', r, k v H' q⟩
end
/-- an exception of one of the told classes may leave, the slots as they are -/
def Tk (X : Cx) (ec : Str → Addr) (G : Gh) (σ : St) (H : Hp) (E : Str → Prop) : Prop :=
  Takes X fun cls d σ' H' => ∃ c, cls = .ref (ec c) ∧ d = none ∧ σ' = σ ∧ Ext G H H' ∧ E c
theorem Tk.go {X : Cx} {ec : Str → Addr} {G : Gh} {σ : St} {H H1 : Hp} {E : Str → Prop} (t : Tk X ec G σ H E) (x : Ext G H H1) : Tk X ec G σ H1 E :=
  t.imp fun _ _ _ _ ⟨c, e1, e2, e3, e4, e5⟩ => ⟨c, e1, e2, e3, x.trans e4, e5⟩
def WRs (G : Gh) (ρ : Rho) (σ : St) (H H' : Hp) (vs : List V) (xs : List W) : Prop := Paired (fun v x => WR G ρ σ H H' v x) vs xs
/-- one behind another: each told from where its evaluation began -/
inductive WRt (G : Gh) (ρ : Rho) (σ : St) : Hp → Hp → List V → List W → Prop
  | nil {H : Hp} : WRt G ρ σ H H [] []
  | cons {H H1 H' : Hp} {v : V} {x : W} {vs : List V} {xs : List W} : Ext G H H1 → WR G ρ σ H H1 v x → WRt G ρ σ H1 H' vs xs → WRt G ρ σ H H' (v :: vs) (x :: xs)
structure SimE (X : Cx) (ec : Str → Addr) (e : Expr) (w : WE) : Prop where
  run : ∀ (G : Gh) (σ : St) (H : Hp) (ρ : Rho) (Q : W → Prop) (E : Str → Prop), G.K = X.K → Sta G σ H ρ → Tk X ec G σ H E → w ρ Q E →
    tU X e σ H fun v H' => ∃ x, Ext G H H' ∧ WR G ρ σ H H' v x ∧ Q x
structure SimT (X : Cx) (ec : Str → Addr) (e : Expr) (w : WT) : Prop where
  run : ∀ (G : Gh) (σ : St) (H : Hp) (ρ : Rho) (Q : Bool → Prop) (E : Str → Prop), G.K = X.K → Sta G σ H ρ → Tk X ec G σ H E → w ρ Q E →
    tUT X e σ H fun b H' => Ext G H H' ∧ Q b
structure SimW (X : Cx) (ec : Str → Addr) (e : Expr) (w : WT) : Prop where
  run : ∀ (G : Gh) (σ : St) (H : Hp) (ρ : Rho) (Q : Bool → Prop) (E : Str → Prop), G.K = X.K → Sta G σ H ρ → Tk X ec G σ H E → w ρ Q E →
    tUW X e σ H fun b H' => Ext G H H' ∧ Q b
structure SimA (X : Cx) (ec : Str → Addr) (es : List Expr) (w : WA) : Prop where
  run : ∀ (G : Gh) (σ : St) (H : Hp) (ρ : Rho) (Q : List W → Prop) (E : Str → Prop), G.K = X.K → Sta G σ H ρ → Tk X ec G σ H E → w ρ Q E →
    tUA X es σ H fun vs H' => ∃ xs, WRt G ρ σ H H' vs xs ∧ Q xs
theorem WRs.ext {G : Gh} {σ : St} {H H1 H2 : Hp} {ρ : Rho} (s : Sta G σ H ρ) (a : Ext G H1 H2) : ∀ {vs : List V} {xs : List W}, WRs G ρ σ H H1 vs xs → WRs G ρ σ H H2 vs xs
  | _, _, .nil => .nil
  | _, _, .cons r t => .cons (r.ext s a) (WRs.ext s a t)
theorem WRs.back {G : Gh} {σ : St} {H H1 H2 : Hp} {ρ : Rho} (s : Sta G σ H ρ) (a : Ext G H H1) : ∀ {vs : List V} {xs : List W}, WRs G ρ σ H1 H2 vs xs → WRs G ρ σ H H2 vs xs
  | _, _, .nil => .nil
  | _, _, .cons r t => .cons (r.back s a) (WRs.back s a t)

theorem WRt.ext {G : Gh} {σ : St} {ρ : Rho} {H H' : Hp} {vs : List V} {xs : List W} (h : WRt G ρ σ H H' vs xs) : Ext G H H' := by
  induction h with
  | nil => exact Ext.refl
  | cons a _ _ ih => exact a.trans ih
theorem WRt.wrs {G : Gh} {σ : St} {ρ : Rho} {H H' : Hp} {vs : List V} {xs : List W} (s : Sta G σ H ρ) (h : WRt G ρ σ H H' vs xs) : WRs G ρ σ H H' vs xs := by
  induction h with
  | nil => exact .nil
  | cons a r t ih => exact .cons (r.ext s t.ext) ((ih (s.ext a)).back s a)
section
variable {X : Cx} {ec : Str → Addr} {a b c : Expr} {es rest : List Expr} {wa wb wc : WE} {wt wu : WT} {ws : WA} {pos : Pos}
/-! ### names and constants -/
def wVar (i : Nat) : WE := fun ρ Q _ => match ρ[i]? with
  | some (some (.im d)) => Q (.d d)
  | some (some (.ow ds)) => Q (.ow ds)
  | some (some .bag) => Q .bag
  | _ => False
theorem sim_var (i : Nat) {x : Str} {pos : Pos} (hN : X.N[i]? = some x := by rfl) (hv : Vis X.env.scope x := by first | exact Or.inl rfl | exact Or.inr (Or.inl rfl) | exact Or.inr (Or.inr rfl)) (hd : (x == ("__debug__" : Str)) = false := by decide)
    (hcd : (x == ("__classdict__" : Str)) = false := by decide) : SimE X ec (.Name x pos) (wVar i) := by
  refine ⟨fun G σ H ρ Q E hK s tk h => peu (pe_var hN hv hd hcd) ?_⟩
  unfold wVar at h
  split at h
  · rename_i d e
    obtain ⟨v, h1, h2⟩ := s.im i d e
    exact ⟨v, h1, .d d, Ext.refl, h2, h⟩
  · rename_i ds e
    obtain ⟨p, vs, h1, h2, h3, _⟩ := s.ow i ds e
    exact ⟨.ref p, h1, .ow ds, Ext.refl, ⟨p, vs, rfl, ⟨i, ds, e, h1⟩, h2, h3⟩, h⟩
  · rename_i e
    obtain ⟨p, c, h1, h2⟩ := s.bag i e
    exact ⟨.ref p, h2, .bag, Ext.refl, ⟨p, c, rfl, h1⟩, h⟩
  · exact h.elim
def wC (d : D) : WE := fun _ Q _ => Q (.d d)
theorem sim_int {i : Int} {j : Nat} {pos : Pos} : SimE X ec (.Constant (.int i) j pos) (wC (.int i)) := ⟨fun G σ H ρ Q E hK s tk h => peu pe_int ⟨.d (.int i), Ext.refl, Rp.int i, h⟩⟩
theorem sim_bl {i : Bool} {j : Nat} {pos : Pos} : SimE X ec (.Constant (.bool i) j pos) (wC (.bool i)) := ⟨fun G σ H ρ Q E hK s tk h => peu pe_bl ⟨.d (.bool i), Ext.refl, Rp.bl i, h⟩⟩
theorem sim_non {j : Nat} {pos : Pos} : SimE X ec (.Constant .none j pos) (wC .none) := ⟨fun G σ H ρ Q E hK s tk h => peu pe_non ⟨.d .none, Ext.refl, Rp.non, h⟩⟩
theorem sim_str {i : Str} {j : Nat} {pos : Pos} : SimE X ec (.Constant (.str i) j pos) (wC (.str i)) := ⟨fun G σ H ρ Q E hK s tk h => peu pe_str ⟨.d (.str i), Ext.refl, Rp.str i, h⟩⟩
/-- a module's int -/
theorem sim_gint {x : Str} {i : Int} {pos : Pos} (hg : Gl X x) (hm : ∃ t, X.mg x = some (.int i t)) (hd : (x == ("__debug__" : Str)) = false := by decide) : SimE X ec (.Name x pos) (wC (.int i)) := by
  obtain ⟨t, hm⟩ := hm
  exact ⟨fun G σ H ρ Q E hK s tk h => peu (pe_glob (v := .int i) hg hm ⟨t, rfl⟩ hd) ⟨.d (.int i), Ext.refl, Rp.int i, h⟩⟩
theorem sim_gstr {x : Str} {i : Str} {pos : Pos} (hg : Gl X x) (hm : ∃ t, X.mg x = some (.str i t)) (hd : (x == ("__debug__" : Str)) = false := by decide) : SimE X ec (.Name x pos) (wC (.str i)) := by
  obtain ⟨t, hm⟩ := hm
  exact ⟨fun G σ H ρ Q E hK s tk h => peu (pe_glob (v := .str i) hg hm ⟨t, rfl⟩ hd) ⟨.d (.str i), Ext.refl, Rp.str i, h⟩⟩

/-! ### two places -/
def SimR2 (X : Cx) (r : R2) (w : W → W → (W → Prop) → Prop) : Prop :=
  ∀ (G : Gh) (ρ : Rho) (σ : St) (H Ha Hb : Hp) (v u : V) (x y : W) (Q : W → Prop) (Q' : VK), G.K = X.K → Sta G σ H ρ → WR G ρ σ Ha H v x → WR G ρ σ Hb H u y → w x y Q →
    (∀ v' H' z, Ext G H H' → WR G ρ σ H H' v' z → Q z → Q' v' H') → r v u H Q'
def w2 (w : W → W → (W → Prop) → Prop) (wa wb : WE) : WE := fun ρ Q E => wa ρ (fun x => wb ρ (fun y => w x y Q) E) E
theorem sim_2 {r : R2} {w : W → W → (W → Prop) → Prop} {e : Expr} (pe : ∀ {ta tb : TE}, PE X a ta → PE X b tb → PE X e (tOp r ta tb)) (hr : SimR2 X r w) (ha : SimE X ec a wa) (hb : SimE X ec b wb) : SimE X ec e (w2 w wa wb) := by
  refine ⟨fun G σ H ρ Q E hK s tk h => peu (pe peU peU) ?_⟩
  refine (ha.run G σ H ρ _ E hK s tk h).mono fun v H1 ⟨x, e1, r1, h1⟩ => ?_
  have s1 := s.ext e1
  refine (hb.run G σ H1 ρ _ E hK s1 (tk.go e1) h1).mono fun u H2 ⟨y, e2, r2, h2⟩ => ?_
  have s2 := s1.ext e2
  exact hr G ρ σ H2 H H1 v u x y Q _ hK s2 (r1.ext s e2) r2 h2 fun v' H' z e3 r3 q => ⟨z, (e1.trans e2).trans e3, r3.back s (e1.trans e2), q⟩
theorem sim_bin {op : Operator} {r : R2} {w : W → W → (W → Prop) → Prop} (ho : OpR X (binaryOp op) r) (hr : SimR2 X r w) (ha : SimE X ec a wa) (hb : SimE X ec b wb) : SimE X ec (.BinOp a op b pos) (w2 w wa wb) :=
  sim_2 (fun p q => pe_op ho p q) hr ha hb
theorem OpR.or {X : Cx} {f : Value → Value → Sem Value} {r r' : R2} (h : OpR X f r) (h' : OpR X f r') : OpR X f (fun x y H Q => r x y H Q ∨ r' x y H Q) := by
  intro pins s σ H x y v u Q I rx ry q
  rcases q with q | q
  · exact h pins s σ H x y v u Q I rx ry q
  · exact h' pins s σ H x y v u Q I rx ry q

def big : Nat := 16000000
theorem big_le {n : Nat} (h : n ≤ big) : n ≤ sizeLine := Nat.le_trans h (by decide)
theorem big_lt {n : Nat} (h : n < big) : n < sizeLine := Nat.lt_of_lt_of_le h (by decide)
def wAdd (x y : W) (Q : W → Prop) : Prop := match x.dat, y.dat with
  | some (.int i), some (.int j) => Q (.d (.int (i + j)))
  | some (.list a), some (.list b) => a.length + b.length ≤ big ∧ Q (.fr (a ++ b))
  | some (.str a), some (.str b) => a.length + b.length ≤ big ∧ Q (.d (.str (a ++ b)))
  | _, _ => False
def rAdd : R2 := fun x y H Q => (rI0 fun i j => .int (i + j)) x y H Q ∨ rCat x y H Q ∨ (fun x y H Q => ∃ i j, x = .str i ∧ y = .str j ∧ i.length + j.length ≤ sizeLine ∧ Q (.str (i ++ j)) H : R2) x y H Q
theorem op_addA : OpR X (binaryOp .Add) rAdd := op_add.or (op_cat.or op_add_str)
theorem r_add : SimR2 X rAdd wAdd := by
  intro G ρ σ H Ha Hb v u x y Q Q' hK s rx ry h k
  unfold wAdd at h
  split at h
  · rename_i i j e1 e2
    have := rx.int e1; have := ry.int e2
    subst v u
    exact .inl ⟨i, j, rfl, rfl, k _ H (.d (.int (i + j))) Ext.refl (Rp.int _) h⟩
  · rename_i a b e1 e2
    obtain ⟨p, vs, rfl, h1, r1⟩ := rx.lst e1
    obtain ⟨q, us, rfl, h2, r2⟩ := ry.lst e2
    refine .inr (.inl ⟨p, q, vs, us, rfl, rfl, h1, h2, by rw [r1.length, r2.length]; exact big_le h.1, fun l hl => ?_⟩)
    have x1 := s.new (o := .lst (vs ++ us)) hl
    exact k _ _ (.fr (a ++ b)) x1 ⟨l, _, rfl, No.of hl, upd_same, (r1.append r2).more (No.of hl) fun c u e => by rw [upd_ne (ne_of_none e hl)]; exact e⟩ h.2
  · rename_i a b e1 e2
    have := rx.str e1; have := ry.str e2
    subst v u
    exact .inr (.inr ⟨a, b, rfl, rfl, big_le h.1, k _ H (.d (.str (a ++ b))) Ext.refl (Rp.str _) h.2⟩)
  · exact h.elim
theorem sim_add (ha : SimE X ec a wa) (hb : SimE X ec b wb) : SimE X ec (.BinOp a .Add b pos) (w2 wAdd wa wb) := sim_bin op_addA r_add ha hb
/-- ints alone -/
def wI (C : Int → Int → Prop) (g : Int → Int → D) (x y : W) (Q : W → Prop) : Prop := match x.dat, y.dat with
  | some (.int i), some (.int j) => C i j ∧ Q (.d (g i j))
  | _, _ => False
theorem r_int {C : Int → Int → Prop} {g : Int → Int → Int} : SimR2 X (rI C fun i j => .int (g i j)) (wI C fun i j => .int (g i j)) := by
  intro G ρ σ H Ha Hb v u x y Q Q' hK s rx ry h k
  unfold wI at h
  split at h
  · rename_i i j e1 e2
    have := rx.int e1; have := ry.int e2
    subst v u
    exact ⟨i, j, rfl, rfl, h.1, k _ H (.d (.int (g i j))) Ext.refl (Rp.int _) h.2⟩
  · exact h.elim
theorem r_int0 {g : Int → Int → Int} : SimR2 X (rI0 fun i j => .int (g i j)) (wI (fun _ _ => True) fun i j => .int (g i j)) := by
  intro G ρ σ H Ha Hb v u x y Q Q' hK s rx ry h k
  unfold wI at h
  split at h
  · rename_i i j e1 e2
    have := rx.int e1; have := ry.int e2
    subst v u
    exact ⟨i, j, rfl, rfl, k _ H (.d (.int (g i j))) Ext.refl (Rp.int _) h.2⟩
  · exact h.elim
theorem r_cmp {g : Int → Int → Bool} : SimR2 X (rI0 fun i j => .bl (g i j)) (wI (fun _ _ => True) fun i j => .bool (g i j)) := by
  intro G ρ σ H Ha Hb v u x y Q Q' hK s rx ry h k
  unfold wI at h
  split at h
  · rename_i i j e1 e2
    have := rx.int e1; have := ry.int e2
    subst v u
    exact ⟨i, j, rfl, rfl, k _ H (.d (.bool (g i j))) Ext.refl (Rp.bl _) h.2⟩
  · exact h.elim
def wSub := wI (fun _ _ => True) fun i j => .int (i - j)
theorem sim_sub (ha : SimE X ec a wa) (hb : SimE X ec b wb) : SimE X ec (.BinOp a .Sub b pos) (w2 wSub wa wb) := sim_bin op_sub r_int0 ha hb
/-- a product's size -/
def MulOk (i j : Int) : Prop := (-(2 ^ 64) < i ∧ i < 2 ^ 64) ∨ (-(2 ^ 64) < j ∧ j < 2 ^ 64) ∨ i.natAbs.log2 + j.natAbs.log2 < 1000000
theorem MulOk.ok {i j : Int} (h : MulOk i j) : IntMulOk i j := by
  rcases h with h | h | h
  · exact CMul.ok (.inl h)
  · exact CMul.ok (.inr h)
  · exact CMulW.ok h
theorem op_mulA : OpR X (binaryOp .Mult) (rI MulOk fun i j => .int (i * j)) := opI fun _ _ _ _ _ _ _ hc q => mul_int q hc.ok
def wMul := wI MulOk fun i j => .int (i * j)
theorem sim_mul (ha : SimE X ec a wa) (hb : SimE X ec b wb) : SimE X ec (.BinOp a .Mult b pos) (w2 wMul wa wb) := sim_bin op_mulA r_int ha hb
/-- a list so many times -/
def wRep (x y : W) (Q : W → Prop) : Prop := match x.dat, y.dat with
  | some (.list a), some (.int k) => a.length * k.toNat ≤ big ∧ -(2 ^ 63) ≤ k ∧ k < 2 ^ 63 ∧ Q (.fr (List.replicate k.toNat a).flatten)
  | _, _ => False
theorem Rps.rep {K : PySem.W.Frag} {Av : Addr → Prop} {H : Hp} {ds : List D} {vs : List V} (h : Rps K Av H vs ds) : ∀ k : Nat, Rps K Av H (List.replicate k vs).flatten (List.replicate k ds).flatten
  | 0 => .nil
  | k + 1 => by rw [List.replicate_succ, List.replicate_succ, List.flatten_cons, List.flatten_cons]; exact h.append (Rps.rep h k)
theorem r_rep : SimR2 X rRep wRep := by
  intro G ρ σ H Ha Hb v u x y Q Q' hK s rx ry h k
  unfold wRep at h
  split at h
  · rename_i a m e1 e2
    have := ry.int e2
    subst u
    obtain ⟨p, vs, rfl, h1, r1⟩ := rx.lst e1
    refine ⟨p, m, vs, rfl, rfl, h1, h.2.1, h.2.2.1, by rw [r1.length]; exact big_le h.1, fun l hl => ?_⟩
    have x1 := s.new (o := .lst (List.replicate m.toNat vs).flatten) hl
    exact k _ _ (.fr _) x1 ⟨l, _, rfl, No.of hl, upd_same, (r1.rep _).more (No.of hl) fun c u e => by rw [upd_ne (ne_of_none e hl)]; exact e⟩ h.2.2.2
  · exact h.elim
theorem sim_rep (ha : SimE X ec a wa) (hb : SimE X ec b wb) : SimE X ec (.BinOp a .Mult b pos) (w2 wRep wa wb) := sim_bin op_rep r_rep ha hb
def DivOk (_ j : Int) : Prop := j ≠ 0 ∧ j.natAbs.log2 < 9000
theorem op_divA : OpR X (binaryOp .FloorDiv) (rI DivOk fun i j => .int (i.fdiv j)) := opI fun i j _ _ _ _ _ hc q => floordiv_int hc.1 q (.inl (PyProof.noPylong_of_log2 hc.2))
def wDiv := wI DivOk fun i j => .int (i.fdiv j)
theorem sim_div (ha : SimE X ec a wa) (hb : SimE X ec b wb) : SimE X ec (.BinOp a .FloorDiv b pos) (w2 wDiv wa wb) := sim_bin op_divA r_int ha hb
def wMod := wI (fun _ j => j ≠ 0) fun i j => .int (i.fmod j)
theorem sim_mod (ha : SimE X ec a wa) (hb : SimE X ec b wb) : SimE X ec (.BinOp a .Mod b pos) (w2 wMod wa wb) := sim_bin op_modN r_int ha hb
def wPow := wI CPow fun i j => .int (i ^ j.toNat)
theorem sim_pow (ha : SimE X ec a wa) (hb : SimE X ec b wb) : SimE X ec (.BinOp a .Pow b pos) (w2 wPow wa wb) := sim_bin op_pow r_int ha hb
def wShl := wI CPow fun i j => .int (i * 2 ^ j.toNat)
theorem sim_shl (ha : SimE X ec a wa) (hb : SimE X ec b wb) : SimE X ec (.BinOp a .LShift b pos) (w2 wShl wa wb) := sim_bin op_shl r_int ha hb
/-- one place -/
def wNegI (x : W) (Q : W → Prop) : Prop := match x.dat with
  | some (.int i) => Q (.d (.int (-i)))
  | _ => False
def w1 (w : W → (W → Prop) → Prop) (wa : WE) : WE := fun ρ Q E => wa ρ (fun x => w x Q) E
theorem sim_neg (ha : SimE X ec a wa) : SimE X ec (.UnaryOp .USub a pos) (w1 wNegI wa) := by
  refine ⟨fun G σ H ρ Q E hK s tk h => peu (pe_un un_neg peU) ?_⟩
  refine (ha.run G σ H ρ _ E hK s tk h).mono fun v H1 ⟨x, e1, r1, h1⟩ => ?_
  unfold wNegI at h1
  split at h1
  · rename_i i e
    have := r1.int e
    subst v
    exact ⟨i, rfl, .d (.int (-i)), e1, Rp.int _, h1⟩
  · exact h1.elim

/-! ### comparisons -/
theorem shp_all : ∀ (n : Nat) (xs : List D), (∀ x ∈ xs, x.canLay0 = true ∧ x.depth ≤ n) → PyData.canLayAll0 xs = true ∧ PyData.depthAll xs ≤ n
  | n, [], _ => by simp [PyData.canLayAll0, PyData.depthAll]
  | n, x :: xs, h => by
    obtain ⟨h1, h2⟩ := h x List.mem_cons_self
    obtain ⟨h3, h4⟩ := shp_all n xs fun y hy => h y (List.mem_cons_of_mem _ hy)
    simp only [PyData.canLayAll0, PyData.depthAll, h1, h3, Bool.and_self, true_and]
    omega
theorem Shp.lay : ∀ (n : Nat) (d : D), Shp n d → d.canLay0 = true ∧ d.depth ≤ n
  | n, .none, _ => by simp [PyData.canLay0, PyData.depth]
  | n, .bool _, _ => by simp [PyData.canLay0, PyData.depth]
  | n, .int _, _ => by simp [PyData.canLay0, PyData.depth]
  | n, .str x, h => by
    have h : PyData.strOk x = true := by cases n <;> exact h
    simp [PyData.canLay0, PyData.depth, h]
  | n + 1, .list xs, h => by
    obtain ⟨h1, h2⟩ := shp_all n xs fun x hx => Shp.lay n x (h x hx)
    simp only [PyData.canLay0, PyData.depth, h1, true_and]
    omega
  | n + 1, .tuple xs, h => by
    obtain ⟨h1, h2⟩ := shp_all n xs fun x hx => Shp.lay n x (h x hx)
    simp only [PyData.canLay0, PyData.depth, h1, true_and]
    omega
  | 0, .list xs, h => (h : False).elim
  | 0, .tuple xs, h => (h : False).elim
  | n, .dict _, h => by cases n <;> exact (h : False).elim
theorem Shp.shaped {d : D} (h : Shp 60 d) : SeqAt.shaped d = true := by
  obtain ⟨h1, h2⟩ := Shp.lay 60 d h
  unfold SeqAt.shaped
  rw [h1, decide_eq_true (by omega)]
  rfl
def eqW (a b : D) (Q : Bool → Prop) : Prop := match a, b with
  | .int i, .int j => Q (decide (i = j))
  | .str i, .str j => Q (decide (i = j))
  | .bool i, .bool j => Q (decide (i = j))
  | a, b => Shp 60 a ∧ Shp 60 b ∧ Q (PyData.eqv a b)
def wEq (x y : W) (Q : W → Prop) : Prop := match x.dat, y.dat with
  | some a, some b => eqW a b fun c => Q (.d (.bool c))
  | _, _ => False
def wNe (x y : W) (Q : W → Prop) : Prop := match x.dat, y.dat with
  | some a, some b => eqW a b fun c => Q (.d (.bool (!c)))
  | _, _ => False
theorem r_eq : SimR2 X (fun x y H Q => rEq x y H Q ∨ rEqD X.K x y H Q) wEq := by
  intro G ρ σ H Ha Hb v u x y Q Q' hK s rx ry h k
  unfold wEq at h
  split at h
  · rename_i a b e1 e2
    unfold eqW at h
    split at h
    · rename_i i j
      have := rx.int e1; have := ry.int e2
      subst v u
      refine .inl ⟨rfl, ?_⟩
      have e : decide (V.int i = V.int j) = decide (i = j) := by rw [dec_int]; rfl
      rw [e]
      exact k _ H (.d (.bool (decide (i = j)))) Ext.refl (Rp.bl _) h
    · rename_i i j
      have := rx.str e1; have := ry.str e2
      subst v u
      refine .inl ⟨rfl, ?_⟩
      have e : decide (V.str i = V.str j) = decide (i = j) := by rw [dec_str]; by_cases q : i = j <;> simp [q]
      rw [e]
      exact k _ H (.d (.bool (decide (i = j)))) Ext.refl (Rp.bl _) h
    · rename_i i j
      have := rx.bl e1; have := ry.bl e2
      subst v u
      refine .inl ⟨rfl, ?_⟩
      have e : decide (V.bl i = V.bl j) = decide (i = j) := by rw [dec_bl]; cases i <;> cases j <;> rfl
      rw [e]
      exact k _ H (.d (.bool (decide (i = j)))) Ext.refl (Rp.bl _) h
    · obtain ⟨h1, h2, h3⟩ := h
      exact .inr ⟨a, b, hK ▸ rx.dat e1 (h1.nd 60 _), hK ▸ ry.dat e2 (h2.nd 60 _), h1.shaped, h2.shaped, k _ H (.d (.bool _)) Ext.refl (Rp.bl _) h3⟩
  · exact h.elim
theorem r_ne : SimR2 X (fun x y H Q => rNe x y H Q ∨ rNeD X.K x y H Q) wNe := by
  intro G ρ σ H Ha Hb v u x y Q Q' hK s rx ry h k
  unfold wNe at h
  split at h
  · rename_i a b e1 e2
    unfold eqW at h
    split at h
    · rename_i i j
      have := rx.int e1; have := ry.int e2
      subst v u
      refine .inl ⟨rfl, ?_⟩
      have e : decide (V.int i = V.int j) = decide (i = j) := by rw [dec_int]; rfl
      rw [e]
      exact k _ H (.d (.bool (!decide (i = j)))) Ext.refl (Rp.bl _) h
    · rename_i i j
      have := rx.str e1; have := ry.str e2
      subst v u
      refine .inl ⟨rfl, ?_⟩
      have e : decide (V.str i = V.str j) = decide (i = j) := by rw [dec_str]; by_cases q : i = j <;> simp [q]
      rw [e]
      exact k _ H (.d (.bool (!decide (i = j)))) Ext.refl (Rp.bl _) h
    · rename_i i j
      have := rx.bl e1; have := ry.bl e2
      subst v u
      refine .inl ⟨rfl, ?_⟩
      have e : decide (V.bl i = V.bl j) = decide (i = j) := by rw [dec_bl]; cases i <;> cases j <;> rfl
      rw [e]
      exact k _ H (.d (.bool (!decide (i = j)))) Ext.refl (Rp.bl _) h
    · obtain ⟨h1, h2, h3⟩ := h
      exact .inr ⟨a, b, hK ▸ rx.dat e1 (h1.nd 60 _), hK ▸ ry.dat e2 (h2.nd 60 _), h1.shaped, h2.shaped, k _ H (.d (.bool _)) Ext.refl (Rp.bl _) h3⟩
  · exact h.elim
def wLt := wI (fun _ _ => True) fun i j => .bool (decide (i < j))
def wLe := wI (fun _ _ => True) fun i j => .bool (decide (i ≤ j))
def wGt := wI (fun _ _ => True) fun i j => .bool (decide (j < i))
def wGe := wI (fun _ _ => True) fun i j => .bool (decide (j ≤ i))
theorem op_isNv : OpR X (compareOp .Is) (fun x y H Q => y = .non ∧ Q (.bl (decide (x = .non))) H) := op_isN
theorem op_notNv : OpR X (compareOp .IsNot) (fun x y H Q => y = .non ∧ Q (.bl (!decide (x = .non))) H) := op_notN
@[simp] def isNon : D → Bool
  | .none => true
  | _ => false
def wIsN (x y : W) (Q : W → Prop) : Prop := match x.dat, y.dat with
  | some a, some .none => Q (.d (.bool (isNon a)))
  | _, _ => False
def wNotN (x y : W) (Q : W → Prop) : Prop := match x.dat, y.dat with
  | some a, some .none => Q (.d (.bool (!isNon a)))
  | _, _ => False
theorem WR.non {G : Gh} {σ : St} {H H' : Hp} {ρ : Rho} {v : V} {x : W} (h : WR G ρ σ H H' v x) {d : D} (e : x.dat = some d) : decide (v = .non) = isNon d := by
  cases x with
  | d x => cases e; cases h <;> rfl
  | fr xs => cases e; obtain ⟨p, vs, rfl, _⟩ := h; rfl
  | ow xs => cases e; obtain ⟨p, vs, rfl, _⟩ := h; rfl
  | bag => cases e
theorem r_isN : SimR2 X (fun x y H Q => y = .non ∧ Q (.bl (decide (x = .non))) H) wIsN := by
  intro G ρ σ H Ha Hb v u x y Q Q' hK s rx ry h k
  unfold wIsN at h
  split at h
  · rename_i a e1 e2
    have hu : u = .non := by have := ry.dat e2 (n := 0) trivial; cases this; rfl
    refine ⟨hu, ?_⟩
    rw [rx.non e1]
    exact k _ H (.d (.bool _)) Ext.refl (Rp.bl _) h
  · exact h.elim
theorem r_notN : SimR2 X (fun x y H Q => y = .non ∧ Q (.bl (!decide (x = .non))) H) wNotN := by
  intro G ρ σ H Ha Hb v u x y Q Q' hK s rx ry h k
  unfold wNotN at h
  split at h
  · rename_i a e1 e2
    have hu : u = .non := by have := ry.dat e2 (n := 0) trivial; cases this; rfl
    refine ⟨hu, ?_⟩
    rw [rx.non e1]
    exact k _ H (.d (.bool _)) Ext.refl (Rp.bl _) h
  · exact h.elim
/-- x in a list, a tuple of flat things -/
@[simp] def flatD : D → Bool
  | .none => true
  | .bool _ => true
  | .int _ => true
  | .str _ => true
  | _ => false
@[simp] def seqD : D → Option (List D)
  | .list ds => some ds
  | .tuple ds => some ds
  | _ => none
def inD (x : D) (ds : List D) : Bool := ds.any fun y => PyData.eqv y x
def wIn (neg : Bool) (x y : W) (Q : W → Prop) : Prop := match x.dat, y.dat.bind seqD with
  | some a, some ds => flatD a = true ∧ (∀ d ∈ ds, flatD d = true) ∧ Q (.d (.bool (if neg then !inD a ds else inD a ds)))
  | _, _ => False
theorem WR.seq {G : Gh} {σ : St} {H H' : Hp} {ρ : Rho} {v : V} {x : W} (h : WR G ρ σ H H' v x) {ds : List D} (e : x.dat.bind seqD = some ds) :
    ∃ p vs, v = .ref p ∧ (SqL G.K H' p vs ∨ SqT G.K H' p vs) ∧ Rps G.K (G.av ρ σ) H' vs ds := by
  cases ex : x.dat with
  | none => rw [ex] at e; cases e
  | some d =>
    rw [ex] at e
    cases d with
    | list es =>
      have e : some es = some ds := e
      cases e
      obtain ⟨p, vs, h1, h2, h3⟩ := h.lst ex
      exact ⟨p, vs, h1, .inl (SqL.of h2), h3⟩
    | tuple es =>
      have e : some es = some ds := e
      cases e
      obtain ⟨p, vs, h1, h2, h3⟩ := h.tup ex
      exact ⟨p, vs, h1, .inr h2, h3⟩
    | _ => cases e
theorem flat_rp {K : PySem.W.Frag} {Av : Addr → Prop} {H : Hp} {v : V} {d : D} (r : Rp K Av H v d) (f : flatD d = true) : flatV v = true := by
  cases r <;> first | rfl | cases f
theorem flat_eqv {K : PySem.W.Frag} {Av : Addr → Prop} {H : Hp} {v u : V} {d e : D} (r : Rp K Av H v d) (q : Rp K Av H u e) (f : flatD d = true) (g : flatD e = true) : eqV v u = PyData.eqv d e := by
  cases r with
  | non => cases q with
    | non => rfl
    | bl b => rfl
    | int i => rfl
    | str x => rfl
    | _ => cases g
  | bl b => cases q with
    | non => rfl
    | bl c => rfl
    | int i => rfl
    | str x => rfl
    | _ => cases g
  | int i => cases q with
    | non => rfl
    | bl c => rfl
    | int i => rfl
    | str x => rfl
    | _ => cases g
  | str x => cases q with
    | non => rfl
    | bl c => rfl
    | int i => rfl
    | str x => rfl
    | _ => cases g
  | _ => cases f
theorem flat_rps {K : PySem.W.Frag} {Av : Addr → Prop} {H : Hp} : ∀ {vs : List V} {ds : List D}, Rps K Av H vs ds → (∀ d ∈ ds, flatD d = true) → vs.all flatV = true
  | _, [], h, _ => by cases h; rfl
  | _, d :: ds, h, f => by
    cases h with
    | cons h1 h2 =>
      rw [List.all_cons, flat_rp h1 (f d List.mem_cons_self), flat_rps h2 fun x hx => f x (List.mem_cons_of_mem _ hx)]
      rfl
theorem flat_in {K : PySem.W.Frag} {Av : Addr → Prop} {H : Hp} {v : V} {a : D} (r : Rp K Av H v a) (f : flatD a = true) : ∀ {vs : List V} {ds : List D}, Rps K Av H vs ds → (∀ d ∈ ds, flatD d = true) → inV v vs = inD a ds
  | _, [], h, _ => by cases h; rfl
  | _, d :: ds, h, g => by
    cases h with
    | cons h1 h2 =>
      have ih := flat_in r f h2 fun x hx => g x (List.mem_cons_of_mem _ hx)
      unfold inV inD at ih ⊢
      rw [List.any_cons, List.any_cons, ih, flat_eqv h1 r (g d List.mem_cons_self) f]
theorem Dp.flat {K : PySem.W.Frag} {Av : Addr → Prop} {H : Hp} {v : V} {a : D} (h : Dp K H v a) (f : flatD a = true) : Rp K Av H v a := by
  cases h with
  | non => exact .non
  | bl b => exact .bl b
  | int i => exact .int i
  | str x => exact .str x
  | _ => cases f
theorem flat_shp {a : D} (f : flatD a = true) : Nd 0 a := by
  cases a with
  | str x => trivial
  | none => trivial
  | bool b => trivial
  | int i => trivial
  | _ => cases f
theorem r_in {neg : Bool} : SimR2 X (rIn X.K neg) (wIn neg) := by
  intro G ρ σ H Ha Hb v u x y Q Q' hK s rx ry h k
  unfold wIn at h
  split at h
  · rename_i a ds e1 e2
    obtain ⟨f1, f2, h⟩ := h
    obtain ⟨p, vs, rfl, hs, r⟩ := ry.seq e2
    have rv : Rp G.K (G.av ρ σ) H v a := Dp.flat (rx.dat e1 (n := 0) (flat_shp f1)) f1
    refine ⟨p, vs, rfl, hK ▸ hs, flat_rp rv f1, flat_rps r f2, ?_⟩
    rw [flat_in rv f1 r f2]
    exact k _ H (.d (.bool _)) Ext.refl (Rp.bl _) h
  · exact h.elim
theorem sim_cmp {op : CmpOp} {r : R2} {w : W → W → (W → Prop) → Prop} (ho : OpR X (compareOp op) r) (hr : SimR2 X r w) (ha : SimE X ec a wa) (hb : SimE X ec b wb) (hm : behindInMarks op b = false) : SimE X ec (.Compare a [op] [b] pos) (w2 w wa wb) :=
  sim_2 (fun p q => pe_cmpR ho p q hm) hr ha hb
/-- a value that is a bool, as a test -/
def W.tst (z : W) (Q : Bool → Prop) : Prop := match z with
  | .d (.bool b) => Q b
  | _ => False
def wB (wa : WE) : WT := fun ρ Q E => wa ρ (fun z => z.tst Q) E
theorem W.tst_bl {G : Gh} {σ : St} {H H' : Hp} {ρ : Rho} {v : V} {z : W} {Q : Bool → Prop} (r : WR G ρ σ H H' v z) (h : z.tst Q) : ∃ b, v = .bl b ∧ Q b := by
  unfold W.tst at h
  split at h
  · rename_i b
    cases r
    exact ⟨b, rfl, h⟩
  · exact h.elim
theorem simt_2 {r : R2} {w : W → W → (W → Prop) → Prop} {e : Expr} (pt : ∀ {ta tb : TE}, PE X a ta → PE X b tb → PT X e (tTest (tOp r ta tb))) (hr : SimR2 X r w) (ha : SimE X ec a wa) (hb : SimE X ec b wb) : SimT X ec e (wB (w2 w wa wb)) := by
  refine ⟨fun G σ H ρ Q E hK s tk h => ptu (pt peU peU) ?_⟩
  refine (ha.run G σ H ρ _ E hK s tk h).mono fun v H1 ⟨x, e1, r1, h1⟩ => ?_
  have s1 := s.ext e1
  refine (hb.run G σ H1 ρ _ E hK s1 (tk.go e1) h1).mono fun u H2 ⟨y, e2, r2, h2⟩ => ?_
  have s2 := s1.ext e2
  refine hr G ρ σ H2 H H1 v u x y _ _ hK s2 (r1.ext s e2) r2 h2 fun v' H' z e3 r3 q => ?_
  obtain ⟨b, eb, q⟩ := W.tst_bl r3 q
  exact ⟨b, eb, (e1.trans e2).trans e3, q⟩
theorem simt_cmp {op : CmpOp} {r : R2} {w : W → W → (W → Prop) → Prop} (ho : OpR X (compareOp op) r) (hr : SimR2 X r w) (ha : SimE X ec a wa) (hb : SimE X ec b wb) (hm : behindInMarks op b = false) : SimT X ec (.Compare a [op] [b] pos) (wB (w2 w wa wb)) :=
  simt_2 (fun p q => pt_cmpR ho p q hm) hr ha hb
/-- a <= b <= c -/
def wChain (w w' : W → W → (W → Prop) → Prop) (wa wb wc : WE) : WE := fun ρ Q E => wa ρ (fun x => wb ρ (fun y => w x y fun z => z.tst fun k => if k = true then wc ρ (fun u => w' y u Q) E else Q (.d (.bool false))) E) E
theorem chain_go {r r' : R2} {w w' : W → W → (W → Prop) → Prop} (hr : SimR2 X r w) (hr' : SimR2 X r' w') (ha : SimE X ec a wa) (hb : SimE X ec b wb) (hc : SimE X ec c wc) {G : Gh} {σ : St} {H : Hp} {ρ : Rho} {Q : W → Prop} {E : Str → Prop} {Q' : VK}
    (hK : G.K = X.K) (s : Sta G σ H ρ) (tk : Tk X ec G σ H E) (h : wChain w w' wa wb wc ρ Q E) (k : ∀ v' H' z, Ext G H H' → WR G ρ σ H H' v' z → Q z → Q' v' H') : tChain r r' (tU X a) (tU X b) (tU X c) σ H Q' := by
  refine (ha.run G σ H ρ _ E hK s tk h).mono fun v H1 ⟨x, e1, r1, h1⟩ => ?_
  have s1 := s.ext e1
  refine (hb.run G σ H1 ρ _ E hK s1 (tk.go e1) h1).mono fun u H2 ⟨y, e2, r2, h2⟩ => ?_
  have s2 := s1.ext e2
  refine hr G ρ σ H2 H H1 v u x y _ _ hK s2 (r1.ext s e2) r2 h2 fun v' H3 z e3 r3 q => ?_
  obtain ⟨d, eb, q⟩ := W.tst_bl r3 q
  refine ⟨d, eb, ?_⟩
  have s3 := s2.ext e3
  have e13 := (e1.trans e2).trans e3
  cases d with
  | false =>
    show Q' _ _
    exact k _ H3 (.d (.bool false)) e13 (Rp.bl false) q
  | true =>
    show tU X c σ H3 _
    refine (hc.run G σ H3 ρ _ E hK s3 (tk.go e13) q).mono fun t H4 ⟨zz, e4, r4, h4⟩ => ?_
    refine hr' G ρ σ H4 H1 H3 u t y zz _ _ hK (s3.ext e4) ((r2.ext s1 e3).ext s1 e4) r4 h4 fun v' H5 z e5 r5 q => ?_
    exact k _ H5 z (e13.trans (e4.trans e5)) (r5.back s (e13.trans e4)) q
theorem sim_chain {op op' : CmpOp} {r r' : R2} {w w' : W → W → (W → Prop) → Prop} (ho : OpR X (compareOp op) r) (hr : SimR2 X r w) (ho' : OpR X (compareOp op') r') (hr' : SimR2 X r' w') (ha : SimE X ec a wa) (hb : SimE X ec b wb) (hc : SimE X ec c wc)
    (hm : lastMarks [op, op'] [b, c] = false := by with_unfolding_all rfl) : SimE X ec (.Compare a [op, op'] [b, c] pos) (wChain w w' wa wb wc) :=
  ⟨fun G σ H ρ Q E hK s tk h => peu (pe_chain ho ho' peU peU peU hm) (chain_go hr hr' ha hb hc hK s tk h fun v' H' z x y q => ⟨z, x, y, q⟩)⟩
theorem simt_chain {op op' : CmpOp} {r r' : R2} {w w' : W → W → (W → Prop) → Prop} (ho : OpR X (compareOp op) r) (hr : SimR2 X r w) (ho' : OpR X (compareOp op') r') (hr' : SimR2 X r' w') (ha : SimE X ec a wa) (hb : SimE X ec b wb) (hc : SimE X ec c wc)
    (hm : lastMarks [op, op'] [b, c] = false := by with_unfolding_all rfl) : SimT X ec (.Compare a [op, op'] [b, c] pos) (wB (wChain w w' wa wb wc)) :=
  ⟨fun G σ H ρ Q E hK s tk h => ptu (pt_chain ho ho' peU peU peU hm) (chain_go hr hr' ha hb hc hK s tk h fun v' H' z x y q => let ⟨b, eb, q⟩ := W.tst_bl y q; ⟨b, eb, x, q⟩)⟩

/-! ### tests -/
theorem simt_val (ha : SimE X ec a wa) (he : ∀ whole, isTrue a X.env whole = (do let v ← whole; standAt a.pos; holding [v] (truthy v)) := by intro _; rfl) : SimT X ec a (wB wa) := by
  refine ⟨fun G σ H ρ Q E hK s tk h => ptu (pt_val peU he) ?_⟩
  refine (ha.run G σ H ρ _ E hK s tk h).mono fun v H1 ⟨x, e1, r1, h1⟩ => ?_
  obtain ⟨b, eb, q⟩ := W.tst_bl r1 h1
  exact ⟨b, eb, e1, q⟩
def wtAnd (wt wu : WT) : WT := fun ρ Q E => wt ρ (fun b => if b = true then wu ρ Q E else Q false) E
def wtOr (wt wu : WT) : WT := fun ρ Q E => wt ρ (fun b => if b = true then Q true else wu ρ Q E) E
def wtNot (wt : WT) : WT := fun ρ Q E => wt ρ (fun b => Q (!b)) E
theorem simw_and1 (ha : SimT X ec a wt) : SimW X ec (.BoolOp .And [a] pos) wt := ⟨fun G σ H ρ Q E hK s tk h => pwu (pw_and1 ptU) (ha.run G σ H ρ Q E hK s tk h)⟩
theorem simw_or1 (ha : SimT X ec a wt) : SimW X ec (.BoolOp .Or [a] pos) wt := ⟨fun G σ H ρ Q E hK s tk h => pwu (pw_or1 ptU) (ha.run G σ H ρ Q E hK s tk h)⟩
theorem simw_and (ha : SimT X ec a wt) (hb : SimW X ec (.BoolOp .And (b :: rest) pos) wu) : SimW X ec (.BoolOp .And (a :: b :: rest) pos) (wtAnd wt wu) := by
  refine ⟨fun G σ H ρ Q E hK s tk h => pwu (pw_and ptU pwU) ?_⟩
  refine (ha.run G σ H ρ _ E hK s tk h).mono fun c H1 ⟨e1, h1⟩ => ?_
  cases c with
  | true =>
    show tUW X _ σ H1 _
    exact (hb.run G σ H1 ρ Q E hK (s.ext e1) (tk.go e1) h1).mono fun b H2 ⟨e2, q⟩ => ⟨e1.trans e2, q⟩
  | false => exact ⟨e1, h1⟩
theorem simw_or (ha : SimT X ec a wt) (hb : SimW X ec (.BoolOp .Or (b :: rest) pos) wu) : SimW X ec (.BoolOp .Or (a :: b :: rest) pos) (wtOr wt wu) := by
  refine ⟨fun G σ H ρ Q E hK s tk h => pwu (pw_or ptU pwU) ?_⟩
  refine (ha.run G σ H ρ _ E hK s tk h).mono fun c H1 ⟨e1, h1⟩ => ?_
  cases c with
  | false =>
    show tUW X _ σ H1 _
    exact (hb.run G σ H1 ρ Q E hK (s.ext e1) (tk.go e1) h1).mono fun b H2 ⟨e2, q⟩ => ⟨e1.trans e2, q⟩
  | true => exact ⟨e1, h1⟩
theorem simt_w (h : SimW X ec a wt) : SimT X ec a wt := ⟨fun G σ H ρ Q E hK s tk q => ptu (PW.pt pwU) (h.run G σ H ρ Q E hK s tk q)⟩
theorem simt_not (ha : SimT X ec a wt) : SimT X ec (.UnaryOp .Not a pos) (wtNot wt) :=
  ⟨fun G σ H ρ Q E hK s tk h => ptu (pt_not ptU) ((ha.run G σ H ρ _ E hK s tk h).mono fun b H1 q => q)⟩
/-- and, or, not as values (bools) -/
def wAndV (wa wb : WE) : WE := fun ρ Q E => wa ρ (fun z => z.tst fun k => if k = true then wb ρ Q E else Q (.d (.bool false))) E
def wOrV (wa wb : WE) : WE := fun ρ Q E => wa ρ (fun z => z.tst fun k => if k = true then Q (.d (.bool true)) else wb ρ Q E) E
def wNotV (wa : WE) : WE := fun ρ Q E => wa ρ (fun z => z.tst fun k => Q (.d (.bool (!k)))) E
theorem sim_one {op : BoolOp} (ha : SimE X ec a wa) : SimE X ec (.BoolOp op [a] pos) wa := ⟨fun G σ H ρ Q E hK s tk h => peu (pe_one peU) (ha.run G σ H ρ Q E hK s tk h)⟩
theorem sim_and (ha : SimE X ec a wa) (hb : SimE X ec (.BoolOp .And (b :: rest) pos) wb) : SimE X ec (.BoolOp .And (a :: b :: rest) pos) (wAndV wa wb) := by
  refine ⟨fun G σ H ρ Q E hK s tk h => peu (pe_and peU peU) ?_⟩
  refine (ha.run G σ H ρ _ E hK s tk h).mono fun v H1 ⟨x, e1, r1, h1⟩ => ?_
  obtain ⟨c, eb, q⟩ := W.tst_bl r1 h1
  refine ⟨c, eb, ?_⟩
  cases c with
  | true =>
    show tU X _ σ H1 _
    exact (hb.run G σ H1 ρ Q E hK (s.ext e1) (tk.go e1) q).mono fun u H2 ⟨y, e2, r2, q⟩ => ⟨y, e1.trans e2, r2.back s e1, q⟩
  | false => exact ⟨.d (.bool false), e1, Rp.bl false, q⟩
theorem sim_or (ha : SimE X ec a wa) (hb : SimE X ec (.BoolOp .Or (b :: rest) pos) wb) : SimE X ec (.BoolOp .Or (a :: b :: rest) pos) (wOrV wa wb) := by
  refine ⟨fun G σ H ρ Q E hK s tk h => peu (pe_or peU peU) ?_⟩
  refine (ha.run G σ H ρ _ E hK s tk h).mono fun v H1 ⟨x, e1, r1, h1⟩ => ?_
  obtain ⟨c, eb, q⟩ := W.tst_bl r1 h1
  refine ⟨c, eb, ?_⟩
  cases c with
  | false =>
    show tU X _ σ H1 _
    exact (hb.run G σ H1 ρ Q E hK (s.ext e1) (tk.go e1) q).mono fun u H2 ⟨y, e2, r2, q⟩ => ⟨y, e1.trans e2, r2.back s e1, q⟩
  | true => exact ⟨.d (.bool true), e1, Rp.bl true, q⟩
theorem sim_not (ha : SimE X ec a wa) : SimE X ec (.UnaryOp .Not a pos) (wNotV wa) := by
  refine ⟨fun G σ H ρ Q E hK s tk h => peu (pe_not peU) ?_⟩
  refine (ha.run G σ H ρ _ E hK s tk h).mono fun v H1 ⟨x, e1, r1, h1⟩ => ?_
  obtain ⟨c, eb, q⟩ := W.tst_bl r1 h1
  exact ⟨c, eb, .d (.bool (!c)), e1, Rp.bl _, q⟩
def wIf (wt : WT) (wa wb : WE) : WE := fun ρ Q E => wt ρ (fun k => if k = true then wa ρ Q E else wb ρ Q E) E
theorem sim_if (hc : SimT X ec c wt) (ha : SimE X ec a wa) (hb : SimE X ec b wb) : SimE X ec (.IfExp c a b pos) (wIf wt wa wb) := by
  refine ⟨fun G σ H ρ Q E hK s tk h => peu (pe_ifExp ptU peU peU) ?_⟩
  refine (hc.run G σ H ρ _ E hK s tk h).mono fun k H1 ⟨e1, h1⟩ => ?_
  cases k with
  | true =>
    show tU X _ σ H1 _
    exact (ha.run G σ H1 ρ Q E hK (s.ext e1) (tk.go e1) h1).mono fun u H2 ⟨y, e2, r2, q⟩ => ⟨y, e1.trans e2, r2.back s e1, q⟩
  | false =>
    show tU X _ σ H1 _
    exact (hb.run G σ H1 ρ Q E hK (s.ext e1) (tk.go e1) h1).mono fun u H2 ⟨y, e2, r2, q⟩ => ⟨y, e1.trans e2, r2.back s e1, q⟩

/-! ### argument lists, displays -/
def waNil : WA := fun _ Q _ => Q []
def waCons (wa : WE) (ws : WA) : WA := fun ρ Q E => wa ρ (fun x => ws ρ (fun xs => Q (x :: xs)) E) E
theorem sima_nil : SimA X ec [] waNil := ⟨fun G σ H ρ Q E hK s tk h => pau pa_nil ⟨[], .nil, h⟩⟩
theorem sima_cons (ha : SimE X ec a wa) (hr : SimA X ec es ws) (hs : starEach (a :: es) X.env = (false, eval a X.env) :: starEach es X.env := by rfl) : SimA X ec (a :: es) (waCons wa ws) := by
  refine ⟨fun G σ H ρ Q E hK s tk h => pau (pa_cons peU paU hs) ?_⟩
  refine (ha.run G σ H ρ _ E hK s tk h).mono fun v H1 ⟨x, e1, r1, h1⟩ => ?_
  have s1 := s.ext e1
  exact (hr.run G σ H1 ρ _ E hK s1 (tk.go e1) h1).mono fun vs H2 ⟨xs, r2, h2⟩ => ⟨x :: xs, .cons e1 r1 r2, h2⟩
def clns : List W → Option (List D)
  | [] => some []
  | x :: xs => match x.cln, clns xs with
    | some d, some ds => some (d :: ds)
    | _, _ => none
theorem WRs.clns {G : Gh} {σ : St} {H H' : Hp} {ρ : Rho} (s : Sta G σ H ρ) : ∀ {vs : List V} {xs : List W} {ds : List D}, WRs G ρ σ H H' vs xs → clns xs = some ds → Rps G.K (G.av ρ σ) H' vs ds
  | _, _, _, .nil, e => by cases e; exact .nil
  | _, x :: xs, ds, .cons r t, e => by
    unfold R.clns at e
    cases e1 : x.cln with
    | none => rw [e1] at e; cases e
    | some d =>
      cases e2 : R.clns xs with
      | none => rw [e1, e2] at e; cases e
      | some ds' =>
        rw [e1, e2] at e
        have e : some (d :: ds') = some ds := e
        cases e
        exact .cons (r.cln s e1) (WRs.clns s t e2)
def wTup (ws : WA) : WE := fun ρ Q E => ws ρ (fun xs => match clns xs with
  | some ds => ds.length ≤ big ∧ Q (.d (.tuple ds))
  | none => False) E
def wLst (ws : WA) : WE := fun ρ Q E => ws ρ (fun xs => match clns xs with
  | some ds => ds.length ≤ big ∧ Q (.fr ds)
  | none => False) E
/-- a new tuple -/
theorem newTup {G : Gh} {σ : St} {H H' : Hp} {ρ : Rho} (s : Sta G σ H ρ) {p : Addr} {vs : List V} {ds : List D} (e1 : Ext G H H') (hp : H' p = none) (r : Rps G.K (G.av ρ σ) H' vs ds) : Ext G H (upd H' p (.tup vs)) ∧ Rp G.K (G.av ρ σ) (upd H' p (.tup vs)) (.ref p) (.tuple ds) := by
  have x1 := (s.ext e1).new (o := .tup vs) hp
  exact ⟨e1.trans x1, .tup (.inl ⟨(s.ext e1).noav (No.of hp), upd_same⟩) (r.ext x1)⟩
theorem newLst {G : Gh} {σ : St} {H H' : Hp} {ρ : Rho} (s : Sta G σ H ρ) {p : Addr} {vs : List V} {ds : List D} (e1 : Ext G H H') (hp : H' p = none) (r : Rps G.K (G.av ρ σ) H' vs ds) : Ext G H (upd H' p (.lst vs)) ∧ WR G ρ σ H (upd H' p (.lst vs)) (.ref p) (.fr ds) := by
  have x1 := (s.ext e1).new (o := .lst vs) hp
  exact ⟨e1.trans x1, ⟨p, vs, rfl, s.fresh e1 (No.of hp), upd_same, r.more (No.of hp) fun c u e => by rw [upd_ne (ne_of_none e hp)]; exact e⟩⟩
theorem sim_tup {x1} (h : SimA X ec es ws) : SimE X ec (.Tuple es x1 pos) (wTup ws) := by
  refine ⟨fun G σ H ρ Q E hK s tk q => peu (pe_tup paU) ?_⟩
  refine (h.run G σ H ρ _ E hK s tk q).mono fun vs H1 ⟨xs, rt, h1⟩ => ?_
  have e1 := rt.ext
  have r1 := rt.wrs s
  split at h1
  · rename_i ds e
    have r := r1.clns s e
    refine ⟨by rw [r.length]; exact big_le h1.1, fun p hp => ?_⟩
    obtain ⟨x, y⟩ := newTup s e1 hp r
    exact ⟨.d (.tuple ds), x, y, h1.2⟩
  · exact h1.elim
theorem sim_lst (h : SimA X ec es ws) : SimE X ec (.List es pos) (wLst ws) := by
  refine ⟨fun G σ H ρ Q E hK s tk q => peu (pe_lst paU) ?_⟩
  refine (h.run G σ H ρ _ E hK s tk q).mono fun vs H1 ⟨xs, rt, h1⟩ => ?_
  have e1 := rt.ext
  have r1 := rt.wrs s
  split at h1
  · rename_i ds e
    have r := r1.clns s e
    refine ⟨by rw [r.length]; exact big_le h1.1, fun p hp => ?_⟩
    obtain ⟨x, y⟩ := newLst s e1 hp r
    exact ⟨_, x, y, h1.2⟩
  · exact h1.elim
end
end R
namespace R
open PySem PySem.Spec PyProof.Rows L2
set_option autoImplicit false
section
variable {X : Cx} {ec : Str → Addr} {a b c e : Expr} {es rest : List Expr} {wa wb wc : WE} {wt wu : WT} {ws : WA} {pos : Pos}
/-! ### subscripts -/
def wIx (x y : W) (Q : W → Prop) : Prop := match x.dat.bind seqD, y.dat with
  | some ds, some (.int i) => (match atI ds i with
    | some d => Q (.d d)
    | none => False)
  | _, _ => False
theorem Rps.atI {K : PySem.W.Frag} {Av : Addr → Prop} {H : Hp} {vs : List V} {ds : List D} {i : Int} {d : D} (r : Rps K Av H vs ds) (h : L2.atI ds i = some d) : ∃ v, L2.atI vs i = some v ∧ Rp K Av H v d := by
  unfold L2.atI at h ⊢
  rw [r.length]
  cases e : ixN ds.length i with
  | none => rw [e] at h; cases h
  | some j =>
    rw [e] at h
    have h : ds[j]? = some d := h
    obtain ⟨v, h1, h2⟩ := r.get h
    exact ⟨v, h1, h2⟩
theorem sim_ix (ha : SimE X ec a wa) (hb : SimE X ec b wb) (hs : PlainIx b := by exact fun _ _ => rfl) : SimE X ec (.Subscript a b pos) (w2 wIx wa wb) := by
  refine sim_2 (r := rIx X.K) (fun p q => pe_ix ix_seq p q hs) ?_ ha hb
  intro G ρ σ H Ha Hb v u x y Q Q' hK s rx ry h k
  unfold wIx at h
  split at h
  · rename_i ds i e1 e2
    have := ry.int e2
    subst u
    split at h
    · rename_i d e3
      obtain ⟨p, vs, rfl, hs, r⟩ := rx.seq e1
      obtain ⟨v, h1, h2⟩ := r.atI e3
      have kk := k _ H (.d d) Ext.refl h2 h
      rcases hs with hs | hs
      · exact .inl ⟨p, vs, i, v, rfl, rfl, hK ▸ hs, h1, kk⟩
      · exact .inr (.inl ⟨p, vs, i, v, rfl, rfl, hK ▸ hs, h1, kk⟩)
    · exact h.elim
  · exact h.elim
/-! ### slices -/
abbrev WO := Rho → (Option Int → Prop) → (Str → Prop) → Prop
def tUO (X : Cx) (e : Option Expr) : TO := fun σ H Q => ∀ (pins : List (Addr × Obj)) (s : Shared), Inv X pins σ H s → wpAny (model X.prog X.w) X.A (evalPart e X.env) (fun u s' => ∃ o H', Inv X pins σ H' s' ∧ IsPart u o ∧ Q o H') X.xe s
theorem poU {o : Option Expr} : PO X o (tUO X o) := ⟨fun pins s σ H Q I h => h pins s I⟩
theorem pou {o : Option Expr} {t : TO} {σ : St} {H : Hp} (h : PO X o t) {Q : Option Int → Hp → Prop} (q : t σ H Q) : tUO X o σ H Q := fun pins s I => h.run pins s σ H Q I q
theorem tUO.mono {o : Option Expr} {σ : St} {H : Hp} {Q Q' : Option Int → Hp → Prop} (h : tUO X o σ H Q) (k : ∀ v H', Q v H' → Q' v H') : tUO X o σ H Q' := fun pins s I => thn (h pins s I) fun u s' ⟨v, H', I', r, q⟩ => ⟨v, H', I', r, k v H' q⟩
structure SimO (X : Cx) (ec : Str → Addr) (e : Option Expr) (w : WO) : Prop where
  run : ∀ (G : Gh) (σ : St) (H : Hp) (ρ : Rho) (Q : Option Int → Prop) (E : Str → Prop), G.K = X.K → Sta G σ H ρ → Tk X ec G σ H E → w ρ Q E →
    tUO X e σ H fun o H' => Ext G H H' ∧ Q o
def woN : WO := fun _ Q _ => Q none
def woS (wa : WE) : WO := fun ρ Q E => wa ρ (fun z => match z with
  | .d (.int i) => Q (some i)
  | _ => False) E
theorem simo_n : SimO X ec none woN := ⟨fun G σ H ρ Q E hK s tk h => pou po_none ⟨Ext.refl, h⟩⟩
theorem simo_s (ha : SimE X ec a wa) : SimO X ec (some a) (woS wa) := by
  refine ⟨fun G σ H ρ Q E hK s tk h => pou (po_some peU) ?_⟩
  refine (ha.run G σ H ρ _ E hK s tk h).mono fun v H1 ⟨x, e1, r1, h1⟩ => ?_
  split at h1
  · rename_i i
    cases r1
    exact ⟨i, rfl, e1, h1⟩
  · exact h1.elim
def cutD (ds : List D) (lo hi : Option Int) : List D := (ds.drop (HT.sIx ds.length 0 lo)).take (HT.sIx ds.length ds.length hi - HT.sIx ds.length 0 lo)
theorem Rps.cut {K : PySem.W.Frag} {Av : Addr → Prop} {H : Hp} {vs : List V} {ds : List D} (r : Rps K Av H vs ds) (lo hi : Option Int) : Rps K Av H (cutV vs lo hi) (cutD ds lo hi) := by
  unfold cutV cutD
  rw [r.length]
  exact (r.drop _).take _

def wSl (wa : WE) (wl wh : WO) : WE := fun ρ Q E => wa ρ (fun x => wl ρ (fun l => wh ρ (fun h => match x.dat with
  | some (.list ds) => Q (.fr (cutD ds l h))
  | some (.tuple ds) => Q (.d (.tuple (cutD ds l h)))
  | _ => False) E) E) E
theorem sim_sl {lo hi : Option Expr} {wl wh : WO} {p2 : Pos} (ha : SimE X ec a wa) (hl : SimO X ec lo wl) (hh : SimO X ec hi wh) : SimE X ec (.Subscript a (.Slice lo hi none p2) pos) (wSl wa wl wh) := by
  refine ⟨fun G σ H ρ Q E hK s tk h => peu (pe_slice (sl_list.or sl_tupA) peU poU poU) ?_⟩
  refine (ha.run G σ H ρ _ E hK s tk h).mono fun v H1 ⟨x, e1, r1, h1⟩ => ?_
  have s1 := s.ext e1
  refine (hl.run G σ H1 ρ _ E hK s1 (tk.go e1) h1).mono fun l H2 ⟨e2, h2⟩ => ?_
  have s2 := s1.ext e2
  have e12 := e1.trans e2
  refine (hh.run G σ H2 ρ _ E hK s2 (tk.go e12) h2).mono fun u H3 ⟨e3, h3⟩ => ?_
  have e13 := e12.trans e3
  have r3 := (r1.ext s (e2.trans e3))
  split at h3
  · rename_i ds e
    obtain ⟨p, vs, rfl, hp, r⟩ := r3.lst e
    refine .inl ⟨p, vs, rfl, SqL.of hp, fun q hq => ?_⟩
    obtain ⟨x1, y1⟩ := newLst s e13 hq (r.cut l u)
    exact ⟨_, x1, y1, h3⟩
  · rename_i ds e
    obtain ⟨p, vs, ev, hp, r⟩ := r3.tup e
    subst ev
    refine .inr ⟨p, vs, rfl, hK ▸ hp, fun hw => ?_, fun _ q hq => ?_⟩
    · have hcut : cutD ds l u = ds := by
        unfold cutD
        rw [r.length] at hw
        rw [hw.1, hw.2]
        simp
      refine ⟨.d (.tuple (cutD ds l u)), e13, ?_, h3⟩
      rw [hcut]
      rcases hx : x with d | _ | _ | _ <;> rw [hx] at e r3
      · cases e; exact r3
      · cases e
      · cases e
      · cases e
    · obtain ⟨x1, y1⟩ := newTup s e13 hq (r.cut l u)
      exact ⟨.d (.tuple (cutD ds l u)), x1, y1, h3⟩
  · exact h3.elim
/-! ### tuples together, so many times -/
def wAddT (x y : W) (Q : W → Prop) : Prop := match x.dat, y.dat with
  | some (.tuple a), some (.tuple b) => a.length + b.length ≤ big ∧ Q (.d (.tuple (a ++ b)))
  | _, _ => False
theorem WR.tupd {G : Gh} {σ : St} {H H' : Hp} {ρ : Rho} {v : V} {x : W} (h : WR G ρ σ H H' v x) {ds : List D} (e : x.dat = some (.tuple ds)) : Rp G.K (G.av ρ σ) H' v (.tuple ds) := by
  cases x with
  | d x => cases e; exact h
  | fr xs => cases e
  | ow xs => cases e
  | bag => cases e
theorem r_addT : SimR2 X (rCatA X.K) wAddT := by
  intro G ρ σ H Ha Hb v u x y Q Q' hK s rx ry h k
  unfold wAddT at h
  split at h
  · rename_i a b e1 e2
    have ta := rx.tupd e1
    have tb := ry.tupd e2
    obtain ⟨p, vs, rfl, h1, r1⟩ := rx.tup e1
    obtain ⟨q, us, rfl, h2, r2⟩ := ry.tup e2
    refine ⟨p, q, vs, us, rfl, rfl, hK ▸ h1, hK ▸ h2, by rw [r1.length, r2.length]; exact big_le h.1, fun z => ?_, fun _ z => ?_, fun _ _ t ht => ?_⟩
    · subst z
      cases r1
      exact k _ H (.d (.tuple b)) Ext.refl tb h.2
    · subst z
      cases r2
      refine k _ H (.d (.tuple (a ++ []))) Ext.refl ?_ h.2
      rw [List.append_nil]; exact ta
    · obtain ⟨x1, y1⟩ := newTup s Ext.refl ht (r1.append r2)
      exact k _ _ (.d (.tuple (a ++ b))) x1 y1 h.2
  · exact h.elim
def wRepT (x y : W) (Q : W → Prop) : Prop := match x.dat, y.dat with
  | some (.tuple a), some (.int k) => a ≠ [] ∧ 2 ≤ k ∧ k ≤ 1000 ∧ a.length ≤ 1000 ∧ Q (.d (.tuple (List.replicate k.toNat a).flatten))
  | _, _ => False
theorem r_repT : SimR2 X (rRepT X.K) wRepT := by
  intro G ρ σ H Ha Hb v u x y Q Q' hK s rx ry h k
  unfold wRepT at h
  split at h
  · rename_i a m e1 e2
    have := ry.int e2
    subst u
    obtain ⟨p, vs, rfl, h1, r1⟩ := rx.tup e1
    refine ⟨p, m, vs, rfl, rfl, hK ▸ h1, fun z => h.1 ?_, h.2.1, h.2.2.1, by rw [r1.length]; exact h.2.2.2.1, fun t ht => ?_⟩
    · subst z; cases r1; rfl
    · obtain ⟨x1, y1⟩ := newTup s Ext.refl ht (r1.rep m.toNat)
      exact k _ _ (.d (.tuple _)) x1 y1 h.2.2.2.2
  · exact h.elim
/-! ### calls of built-ins -/
def SimC (X : Cx) (r : List V → Hp → VK → Prop) (w : List W → (W → Prop) → Prop) : Prop :=
  ∀ (G : Gh) (ρ : Rho) (σ : St) (H Ha : Hp) (vs : List V) (xs : List W) (Q : W → Prop) (Q' : VK), G.K = X.K → Sta G σ H ρ → WRs G ρ σ Ha H vs xs → w xs Q →
    (∀ v' H' z, Ext G H H' → WR G ρ σ H H' v' z → Q z → Q' v' H') → r vs H Q'
def wCB (w : List W → (W → Prop) → Prop) (ws : WA) : WE := fun ρ Q E => ws ρ (fun xs => w xs Q) E
theorem sim_call0 {r : List V → Hp → VK → Prop} {w : List W → (W → Prop) → Prop} {e : Expr} (pe : ∀ {t : TA}, PA X es t → PE X e (tCB r t)) (hr : SimC X r w) (ha : SimA X ec es ws) : SimE X ec e (wCB w ws) := by
  refine ⟨fun G σ H ρ Q E hK s tk h => peu (pe paU) ?_⟩
  refine (ha.run G σ H ρ _ E hK s tk h).mono fun vs H1 ⟨xs, rt, h1⟩ => ?_
  have e1 := rt.ext
  have r1 := rt.wrs s
  have s1 := s.ext e1
  exact hr G ρ σ H1 H vs xs Q _ hK s1 r1 h1 fun v' H' z e2 r2 q => ⟨z, e1.trans e2, r2.back s e1, q⟩
theorem sim_callB {x : Str} {p : Pos} {id : String} {r : List V → Hp → VK → Prop} {w : List W → (W → Prop) → Prop} (hc : CallR X (.builtin id) r) (hr : SimC X r w) (hg : Gl X x) (hm : X.mg x = none) (hv : bootBuiltins x = some (.builtin id)) (ha : SimA X ec (e :: es) ws)
    (hn : x ≠ "__name__" := by decide) (hdb : (x == ("__debug__" : Str)) = false := by decide) (he : starEach (e :: es) X.env = (false, eval e X.env) :: starEach es X.env := by rfl) (hpl : (backTo pos (starEach es X.env)).any (·.1) = false := by rfl) :
    SimE X ec (.Call (.Name x p) (e :: es) [] pos) (wCB w ws) := sim_call0 (fun q => pe_callB hc hg hm hv q hn hdb he hpl) hr ha
theorem sim_callT {x : Str} {p : Pos} {T : String} {r : List V → Hp → VK → Prop} {w : List W → (W → Prop) → Prop} (hc : CallR X (.type T) r) (hr : SimC X r w) (hg : Gl X x) (hm : X.mg x = none) (hv : bootBuiltins x = some (.type T)) (ha : SimA X ec (e :: es) ws)
    (hn : x ≠ "__name__" := by decide) (hdb : (x == ("__debug__" : Str)) = false := by decide) (he : starEach (e :: es) X.env = (false, eval e X.env) :: starEach es X.env := by rfl) (hpl : (backTo pos (starEach es X.env)).any (·.1) = false := by rfl) :
    SimE X ec (.Call (.Name x p) (e :: es) [] pos) (wCB w ws) := sim_call0 (fun q => pe_callTy hc hg hm hv q hn hdb he hpl) hr ha
theorem WRs.one {G : Gh} {σ : St} {H H' : Hp} {ρ : Rho} {vs : List V} {x : W} (h : WRs G ρ σ H H' vs [x]) : ∃ v, vs = [v] ∧ WR G ρ σ H H' v x := by
  cases h with
  | cons r t => cases t; exact ⟨_, rfl, r⟩
theorem WRs.two {G : Gh} {σ : St} {H H' : Hp} {ρ : Rho} {vs : List V} {x y : W} (h : WRs G ρ σ H H' vs [x, y]) : ∃ v u, vs = [v, u] ∧ WR G ρ σ H H' v x ∧ WR G ρ σ H H' u y := by
  cases h with
  | cons r t =>
    cases t with
    | cons r' t' => cases t'; exact ⟨_, _, rfl, r, r'⟩
def bLen (xs : List W) (Q : W → Prop) : Prop := match xs with
  | [x] => (match x.dat with
    | some (.list ds) => Q (.d (.int ds.length))
    | some (.tuple ds) => Q (.d (.int ds.length))
    | some (.str z) => z.length ≤ big ∧ Q (.d (.int z.length))
    | _ => False)
  | _ => False
theorem c_len : SimC X (fun xs H Q => ∃ x n, xs = [x] ∧ LenV X.K x H n ∧ Q (.int n) H) bLen := by
  intro G ρ σ H Ha vs xs Q Q' hK s r h k
  unfold bLen at h
  split at h
  · rename_i x
    obtain ⟨v, rfl, rx⟩ := r.one
    split at h
    · rename_i ds e
      obtain ⟨p, vs, rfl, hp, rr⟩ := rx.lst e
      exact ⟨_, ds.length, rfl, .inl ⟨vs, SqL.of hp, rr.length.symm⟩, k _ H (.d (.int ds.length)) Ext.refl (Rp.int _) h⟩
    · rename_i ds e
      obtain ⟨p, vs, ev, hp, rr⟩ := rx.tup e
      subst ev
      exact ⟨_, ds.length, rfl, .inr ⟨vs, hK ▸ hp, rr.length.symm⟩, k _ H (.d (.int ds.length)) Ext.refl (Rp.int _) h⟩
    · rename_i z e
      have := rx.str e
      subst v
      exact ⟨_, z.length, rfl, ⟨big_le h.1, rfl⟩, k _ H (.d (.int z.length)) Ext.refl (Rp.int _) h.2⟩
    · exact h.elim
  · exact h.elim
def bAbs (xs : List W) (Q : W → Prop) : Prop := match xs with
  | [x] => (match x.dat with
    | some (.int i) => Q (.d (.int (if i < 0 then -i else i)))
    | _ => False)
  | _ => False
theorem c_abs : SimC X (fun xs H Q => ∃ i, xs = [.int i] ∧ Q (.int (if i < 0 then -i else i)) H) bAbs := by
  intro G ρ σ H Ha vs xs Q Q' hK s r h k
  unfold bAbs at h
  split at h
  · obtain ⟨v, rfl, rx⟩ := r.one
    split at h
    · rename_i i e
      have := rx.int e
      subst v
      exact ⟨i, rfl, k _ H (.d (.int (if i < 0 then -i else i))) Ext.refl (Rp.int _) h⟩
    · exact h.elim
  · exact h.elim
def bInt (xs : List W) (Q : W → Prop) : Prop := match xs with
  | [x] => (match x.dat with
    | some (.int i) => Q (.d (.int i))
    | some (.bool i) => Q (.d (.int (if i then 1 else 0)))
    | _ => False)
  | _ => False
theorem c_int : SimC X (fun xs H Q => (∃ i, xs = [.int i] ∧ Q (.int i) H) ∨ ∃ k, xs = [.bl k] ∧ Q (.int (if k then 1 else 0)) H) bInt := by
  intro G ρ σ H Ha vs xs Q Q' hK s r h k
  unfold bInt at h
  split at h
  · obtain ⟨v, rfl, rx⟩ := r.one
    split at h
    · rename_i i e
      have := rx.int e
      subst v
      exact .inl ⟨i, rfl, k _ H (.d (.int i)) Ext.refl (Rp.int _) h⟩
    · rename_i i e
      have := rx.bl e
      subst v
      exact .inr ⟨i, rfl, k _ H (.d (.int _)) Ext.refl (Rp.int _) h⟩
    · exact h.elim
  · exact h.elim
def bMax2 (xs : List W) (Q : W → Prop) : Prop := match xs with
  | [x, y] => (match x.dat, y.dat with
    | some (.int i), some (.int j) => Q (.d (.int (if j > i then j else i)))
    | _, _ => False)
  | _ => False
def bMin2 (xs : List W) (Q : W → Prop) : Prop := match xs with
  | [x, y] => (match x.dat, y.dat with
    | some (.int i), some (.int j) => Q (.d (.int (if j < i then j else i)))
    | _, _ => False)
  | _ => False
theorem c_max2 : SimC X (fun xs H Q => ∃ i j, xs = [.int i, .int j] ∧ Q (.int (if j > i then j else i)) H) bMax2 := by
  intro G ρ σ H Ha vs xs Q Q' hK s r h k
  unfold bMax2 at h
  split at h
  · obtain ⟨v, u, rfl, rx, ry⟩ := r.two
    split at h
    · rename_i i j e1 e2
      have := rx.int e1; have := ry.int e2
      subst v u
      exact ⟨i, j, rfl, k _ H (.d (.int _)) Ext.refl (Rp.int _) h⟩
    · exact h.elim
  · exact h.elim
theorem c_min2 : SimC X (fun xs H Q => ∃ i j, xs = [.int i, .int j] ∧ Q (.int (if j < i then j else i)) H) bMin2 := by
  intro G ρ σ H Ha vs xs Q Q' hK s r h k
  unfold bMin2 at h
  split at h
  · obtain ⟨v, u, rfl, rx, ry⟩ := r.two
    split at h
    · rename_i i j e1 e2
      have := rx.int e1; have := ry.int e2
      subst v u
      exact ⟨i, j, rfl, k _ H (.d (.int _)) Ext.refl (Rp.int _) h⟩
    · exact h.elim
  · exact h.elim
def bTuple (xs : List W) (Q : W → Prop) : Prop := match xs with
  | [x] => (match x.dat with
    | some (.list ds) => Q (.d (.tuple ds))
    | some (.tuple ds) => Q (.d (.tuple ds))
    | _ => False)
  | _ => False
theorem c_tuple : SimC X (fun xs H Q => ∃ p ys, xs = [.ref p] ∧ ((SqL X.K H p ys ∧ ∀ l, H l = none → Q (.ref l) (upd H l (.tup ys))) ∨ (SqT X.K H p ys ∧ Q (.ref p) H))) bTuple := by
  intro G ρ σ H Ha vs xs Q Q' hK s r h k
  unfold bTuple at h
  split at h
  · obtain ⟨v, rfl, rx⟩ := r.one
    split at h
    · rename_i ds e
      obtain ⟨p, vs, rfl, hp, r⟩ := rx.lst e
      refine ⟨p, vs, rfl, .inl ⟨SqL.of hp, fun l hl => ?_⟩⟩
      obtain ⟨x1, y1⟩ := newTup s Ext.refl hl r
      exact k _ _ (.d (.tuple ds)) x1 y1 h
    · rename_i ds e
      have t := rx.tupd e
      obtain ⟨p, vs, rfl, hp, r⟩ := rx.tup e
      exact ⟨p, vs, rfl, .inr ⟨hK ▸ hp, k _ H (.d (.tuple ds)) Ext.refl t h⟩⟩
    · exact h.elim
  · exact h.elim
def bList (xs : List W) (Q : W → Prop) : Prop := match xs with
  | [x] => (match x.dat.bind seqD with
    | some ds => Q (.fr ds)
    | _ => False)
  | _ => False
theorem c_list : SimC X (fun xs H Q => ∃ p ys, xs = [.ref p] ∧ (SqL X.K H p ys ∨ SqT X.K H p ys) ∧ ∀ l, H l = none → Q (.ref l) (upd H l (.lst ys))) bList := by
  intro G ρ σ H Ha vs xs Q Q' hK s r h k
  unfold bList at h
  split at h
  · obtain ⟨v, rfl, rx⟩ := r.one
    split at h
    · rename_i ds e
      obtain ⟨p, vs, rfl, hp, r⟩ := rx.seq e
      refine ⟨p, vs, rfl, hK ▸ hp, fun l hl => ?_⟩
      obtain ⟨x1, y1⟩ := newLst s Ext.refl hl r
      exact k _ _ (.fr ds) x1 y1 h
    · exact h.elim
  · exact h.elim
/-- lists of ints, of bools -/
@[simp] def asI : D → Int
  | .int i => i
  | _ => 0
@[simp] def asB : D → Bool
  | .bool b => b
  | _ => false
@[simp] def isI : D → Prop
  | .int _ => True
  | _ => False
@[simp] def isBl : D → Prop
  | .bool _ => True
  | _ => False
theorem all_isI : ∀ {ds : List D}, (∀ d ∈ ds, isI d) → ds = (ds.map asI).map PyData.int
  | [], _ => rfl
  | d :: ds, h => by
    have h1 := h d List.mem_cons_self
    have h2 := all_isI fun x hx => h x (List.mem_cons_of_mem _ hx)
    cases d <;> first | exact (h1 : False).elim | skip
    rw [List.map_cons, List.map_cons, ← h2]
    rfl
theorem all_isB : ∀ {ds : List D}, (∀ d ∈ ds, isBl d) → ds = (ds.map asB).map PyData.bool
  | [], _ => rfl
  | d :: ds, h => by
    have h1 := h d List.mem_cons_self
    have h2 := all_isB fun x hx => h x (List.mem_cons_of_mem _ hx)
    cases d <;> first | exact (h1 : False).elim | skip
    rw [List.map_cons, List.map_cons, ← h2]
    rfl
def bSum (xs : List W) (Q : W → Prop) : Prop := match xs with
  | [x] => (match x.dat with
    | some (.list ds) => (∀ d ∈ ds, isI d) ∧ Q (.d (.int (ds.map asI).sum))
    | _ => False)
  | _ => False
theorem c_sum : SimC X (rSum X.K) bSum := by
  intro G ρ σ H Ha vs xs Q Q' hK s r h k
  unfold bSum at h
  split at h
  · obtain ⟨v, rfl, rx⟩ := r.one
    split at h
    · rename_i ds e
      obtain ⟨p, vs, rfl, hp, r⟩ := rx.lst e
      rw [all_isI h.1] at r
      have e2 := r.intsV
      subst e2
      exact ⟨p, _, rfl, SqL.of hp, k _ H (.d (.int _)) Ext.refl (Rp.int _) h.2⟩
    · exact h.elim
  · exact h.elim
def bAll (xs : List W) (Q : W → Prop) : Prop := match xs with
  | [x] => (match x.dat with
    | some (.list ds) => (∀ d ∈ ds, isBl d) ∧ Q (.d (.bool (ds.all asB)))
    | _ => False)
  | _ => False
def bAny (xs : List W) (Q : W → Prop) : Prop := match xs with
  | [x] => (match x.dat with
    | some (.list ds) => (∀ d ∈ ds, isBl d) ∧ Q (.d (.bool (ds.any asB)))
    | _ => False)
  | _ => False
theorem c_all : SimC X (rAll X.K) bAll := by
  intro G ρ σ H Ha vs xs Q Q' hK s r h k
  unfold bAll at h
  split at h
  · obtain ⟨v, rfl, rx⟩ := r.one
    split at h
    · rename_i ds e
      obtain ⟨p, vs, rfl, hp, r⟩ := rx.lst e
      rw [all_isB h.1] at r
      have e2 := r.bools
      subst e2
      refine ⟨p, _, rfl, SqL.of hp, ?_⟩
      have e3 : (ds.map asB).all id = ds.all asB := by rw [List.all_map]; rfl
      rw [e3]
      exact k _ H (.d (.bool _)) Ext.refl (Rp.bl _) h.2
    · exact h.elim
  · exact h.elim
theorem c_any : SimC X (rAny X.K) bAny := by
  intro G ρ σ H Ha vs xs Q Q' hK s r h k
  unfold bAny at h
  split at h
  · obtain ⟨v, rfl, rx⟩ := r.one
    split at h
    · rename_i ds e
      obtain ⟨p, vs, rfl, hp, r⟩ := rx.lst e
      rw [all_isB h.1] at r
      have e2 := r.bools
      subst e2
      refine ⟨p, _, rfl, SqL.of hp, ?_⟩
      have e3 : (ds.map asB).any id = ds.any asB := by rw [List.any_map]; rfl
      rw [e3]
      exact k _ H (.d (.bool _)) Ext.refl (Rp.bl _) h.2
    · exact h.elim
  · exact h.elim
/-! ### repr -/
mutual
@[simp] def shw : D → Nat
  | .none => 4
  | .bool _ => 5
  | .int _ => 600
  | .str x => 12 * x.length + 12
  | .list xs => shws xs + 3
  | .tuple xs => shws xs + 3
  | .dict _ => 0
@[simp] def shws : List D → Nat
  | [] => 0
  | x :: xs => shw x + 2 + shws xs
end
/- what repr shows within bounds: ints below 577 figures, no texts within -/
mutual
@[simp] def shOk : D → Bool
  | .none => true
  | .bool _ => true
  | .int i => decide (i.natAbs.log2 < 1920)
  | .str _ => false
  | .list xs => shOks xs
  | .tuple xs => shOks xs
  | .dict _ => false
@[simp] def shOks : List D → Bool
  | [] => true
  | x :: xs => shOk x && shOks xs
end
theorem int_len {i : Int} (h : i.natAbs.log2 < 1920) : (PyData.int i).shown.length ≤ 600 := by
  have h1 : i.natAbs < 2 ^ 1920 := by
    by_cases z : i.natAbs = 0
    · rw [z]; exact Nat.two_pow_pos _
    · exact (Nat.log2_lt z).mp h
  have h2 : i.natAbs < 10 ^ 590 := Nat.lt_of_lt_of_le h1 (by decide +kernel)
  have e := int_text_length_le10 (k := 590) (by decide) h2
  show (Str.ofString (toString i)).length ≤ 600
  rw [PySem.ofString_length]
  omega
theorem sum_len_nil : (([] : List Str).map (·.length)).sum = 0 := rfl
mutual
theorem shown_shw : ∀ d : D, shOk d = true → d.shown.length ≤ shw d
  | .none, _ => by simp only [shw]; decide +kernel
  | .bool b, _ => by cases b <;> (simp only [shw]; decide +kernel)
  | .int i, h => by
    simp only [shw]
    exact int_len (of_decide_eq_true (by simpa only [shOk] using h))
  | .str x, h => by simp only [shOk] at h; cases h
  | .list xs, h => by
    have h' : shOks xs = true := by simpa only [shOk] using h
    have := shown_shws xs h'
    have := listText_len_le (PyData.shownAll xs)
    simp only [shw, PyData.shown]
    omega
  | .tuple xs, h => by
    have h' : shOks xs = true := by simpa only [shOk] using h
    have := shown_shws xs h'
    have := tupleText_len_le (PyData.shownAll xs)
    simp only [shw, PyData.shown]
    omega
  | .dict _, h => by simp only [shOk] at h; cases h
theorem shown_shws : ∀ ds : List D, shOks ds = true → ((PyData.shownAll ds).map (·.length)).sum + 2 * (PyData.shownAll ds).length ≤ shws ds
  | [], _ => by simp only [PyData.shownAll, shws, List.map_nil, List.sum_nil, List.length_nil]; omega
  | x :: xs, h => by
    have h' : (shOk x && shOks xs) = true := by simpa only [shOks] using h
    rw [Bool.and_eq_true] at h'
    have h1 := shown_shw x h'.1
    have h2 := shown_shws xs h'.2
    simp only [PyData.shownAll, shws, List.map_cons, List.sum_cons, List.length_cons]
    omega
end
mutual
theorem shOk_able : ∀ d : D, shOk d = true → d.showable = true ∧ d.hasDict = false
  | .none, _ => by simp only [PyData.showable, PyData.hasDict, and_self]
  | .bool b, _ => by simp only [PyData.showable, PyData.hasDict, and_self]
  | .int i, h => by
    have h' : decide (i.natAbs.log2 < 1920) = true := by simpa only [shOk] using h
    simp only [PyData.showable, PyData.hasDict, h', and_self]
  | .str x, h => by simp only [PyData.showable, PyData.hasDict, and_self]
  | .list xs, h => by
    have := shOks_able xs (by simpa only [shOk] using h)
    simpa only [PyData.showable, PyData.hasDict] using this
  | .tuple xs, h => by
    have := shOks_able xs (by simpa only [shOk] using h)
    simpa only [PyData.showable, PyData.hasDict] using this
  | .dict _, h => by simp only [shOk] at h; cases h
theorem shOks_able : ∀ ds : List D, shOks ds = true → PyData.showableAll ds = true ∧ PyData.hasDictAll ds = false
  | [], _ => by simp only [PyData.showableAll, PyData.hasDictAll, and_self]
  | x :: xs, h => by
    have h' : (shOk x && shOks xs) = true := by simpa only [shOks] using h
    rw [Bool.and_eq_true] at h'
    obtain ⟨a1, a2⟩ := shOk_able x h'.1
    obtain ⟨b1, b2⟩ := shOks_able xs h'.2
    simp only [PyData.showableAll, PyData.hasDictAll, a1, a2, b1, b2, Bool.and_self, Bool.or_self, and_self]
end
def rRepr (K : PySem.W.Frag) : List V → Hp → VK → Prop := fun xs H Q => (∃ a d, xs = [.ref a] ∧ Dp K H (.ref a) d ∧ shOk d = true ∧ d.depth ≤ 60 ∧ shw d ≤ big ∧ Q (.str d.shown) H) ∨ ∃ i, xs = [.int i] ∧ i.natAbs.log2 < 1920 ∧ Q (.str (toString i)) H
theorem call_repr_data (hu : X.A.units + 200 < cLine) (hg : X.A.guards = some []) : CallR X (.builtin "repr") (rRepr X.K) := by
  intro pins s σ H xs us Q I r h
  rcases h with ⟨a, d, rfl, hd, ok, dep, sz, q⟩ | h
  rotate_left
  · exact SkE.call_repr_int pins s σ H xs us Q I r h
  obtain ⟨u, rfl, ru⟩ := vals1 r
  cases ru
  obtain ⟨as, rd⟩ := Dp.reads I d _ _ hd rfl
  obtain ⟨h1, h2⟩ := shOk_able d ok
  exact repr_of_reads' rd h1 (fun z => by rw [h2] at z; cases z) hg (by omega) (fun _ _ e => e) (fun h' u tk k => ⟨.str d.shown, H, I.kept k, ⟨u, rfl⟩, q⟩) (Nat.le_trans (shown_shw d ok) (big_le sz))
def bRepr (xs : List W) (Q : W → Prop) : Prop := match xs with
  | [x] => (match x.dat with
    | some (.list ds) => shOks ds = true ∧ Shp 59 (.list ds) ∧ shws ds ≤ 15999000 ∧ Q (.d (.str (PyData.list ds).shown))
    | some (.tuple ds) => shOks ds = true ∧ Shp 59 (.tuple ds) ∧ shws ds ≤ 15999000 ∧ Q (.d (.str (PyData.tuple ds).shown))
    | some (.int i) => i.natAbs.log2 < 1920 ∧ Q (.d (.str (PyData.int i).shown))
    | _ => False)
  | _ => False
theorem c_repr : SimC X (rRepr X.K) bRepr := by
  intro G ρ σ H Ha vs xs Q Q' hK s r h k
  unfold bRepr at h
  split at h
  · obtain ⟨v, rfl, rx⟩ := r.one
    split at h
    · rename_i ds e
      have hd := rx.dat e (h.2.1.nd 59 _)
      obtain ⟨p, vs, rfl, hp, r⟩ := rx.lst e
      obtain ⟨h1, h2, h3, h4⟩ := h
      exact .inl ⟨p, _, rfl, hK ▸ hd, by simpa only [shOk] using h1, by have := (Shp.lay 59 _ h2).2; omega, by simp only [shw, big]; omega, k _ H (.d (.str _)) Ext.refl (Rp.str _) h4⟩
    · rename_i ds e
      have hd := rx.dat e (h.2.1.nd 59 _)
      obtain ⟨p, vs, rfl, hp, r⟩ := rx.tup e
      obtain ⟨h1, h2, h3, h4⟩ := h
      exact .inl ⟨p, _, rfl, hK ▸ hd, by simpa only [shOk] using h1, by have := (Shp.lay 59 _ h2).2; omega, by simp only [shw, big]; omega, k _ H (.d (.str _)) Ext.refl (Rp.str _) h4⟩
    · rename_i i e
      have := rx.int e
      subst this
      exact .inr ⟨i, rfl, h.1, k _ H (.d (.str _)) Ext.refl (Rp.str _) h.2⟩
    · exact h.elim
  · exact h.elim

/-! ### isinstance -/
@[simp] def tyD : D → String
  | .none => "NoneType"
  | .bool _ => "bool"
  | .int _ => "int"
  | .str _ => "str"
  | .list _ => "list"
  | .tuple _ => "tuple"
  | .dict _ => "dict"
@[simp] def isTy (T : String) (d : D) : Bool := decide (tyD d = T) || (decide (tyD d = "bool") && decide (T = "int"))
@[simp] def noDict : D → Bool
  | .dict _ => false
  | _ => true
def wIsi (T : String) (wa : WE) : WE := fun ρ Q E => wa ρ (fun x => match x.dat with
  | some d => noDict d = true ∧ Q (.d (.bool (isTy T d)))
  | none => False) E
def tyNames : List String := ["NoneType", "bool", "int", "str", "list", "tuple", "dict"]
def tyAsked : List String := ["int", "bool", "str", "tuple", "list", "dict"]
theorem kit_tab : ∀ t ∈ tyNames, ∀ T ∈ tyAsked, kitB t T = some (decide (t = T) || (decide (t = "bool") && decide (T = "int"))) := by decide +kernel
theorem tyD_mem (d : D) : tyD d ∈ tyNames := by cases d <;> (simp only [tyD]; decide)
theorem kit_all {K : PySem.W.Frag} {T : String} (hT : T ∈ tyAsked) (d : D) : PySem.W.kitOne K (.type (tyD d)) (.type T) = some (isTy T d) := kit_ty (kit_tab _ (tyD_mem d) T hT)
theorem WR.ty {G : Gh} {σ : St} {H H' : Hp} {ρ : Rho} {v : V} {x : W} (h : WR G ρ σ H H' v x) {d : D} (e : x.dat = some d) (hn : noDict d = true) : TyX G.K H' v (.type (tyD d)) := by
  cases d with
  | none =>
    have : v = .non := by
      have := h.non e
      simpa [isNon] using this
    subst this; exact .base .non
  | bool b => rw [h.bl e]; exact .base (.bl b)
  | int i => rw [h.int e]; exact .base (.int i)
  | str i => rw [h.str e]; exact .base (.str i)
  | list ds =>
    obtain ⟨p, vs, rfl, hp, r⟩ := h.lst e
    exact .base (.lst hp)
  | tuple ds =>
    obtain ⟨p, vs, rfl, hp, r⟩ := h.tup e
    rcases hp with (hs | ⟨o, hs⟩) | ⟨o, its, n, hk, hc, _⟩
    · exact .base (.tup hs)
    · exact .fTuple hs
    · exact .kTuple hk hc
  | dict kvs => cases hn
/-- isinstance(e, T), T a built-in class -/
theorem sim_isi {x T : Str} {Tn : String} {p p2 : Pos} (hT : Tn ∈ tyAsked) (hg : Gl X x) (hm : X.mg x = none) (hv : bootBuiltins x = some (.builtin "isinstance")) (hgT : Gl X T) (hmT : X.mg T = none) (hvT : bootBuiltins T = some (.type Tn)) (ha : SimE X ec a wa)
    (hn : x ≠ "__name__" := by decide) (hdb : (x == ("__debug__" : Str)) = false := by decide) (hnT : T ≠ "__name__" := by decide) (hdbT : (T == ("__debug__" : Str)) = false := by decide)
    (he : starEach [a, .Name T p2] X.env = (false, eval a X.env) :: starEach [.Name T p2] X.env := by rfl) (hpl : (backTo pos (starEach [.Name T p2] X.env)).any (·.1) = false := by rfl) :
    SimE X ec (.Call (.Name x p) [a, .Name T p2] [] pos) (wIsi Tn wa) := by
  refine ⟨fun G σ H ρ Q E hK s tk h => peu (pe_callB call_isi hg hm hv (pa_cons peU (pa_cons (pe_bltn (v := .ty Tn) hgT hmT hvT rfl hnT hdbT) pa_nil) he) hn hdb he hpl) ?_⟩
  refine (ha.run G σ H ρ _ E hK s tk h).mono fun v H1 ⟨x, e1, r1, h1⟩ => ?_
  split at h1
  · rename_i d e
    exact ⟨v, .ty Tn, _, _, _, rfl, .ty Tn, hK ▸ r1.ty e h1.1, kit_all hT d, .d (.bool (isTy Tn d)), e1, Rp.bl _, h1.2⟩
  · exact h1.elim
end
end R
namespace R
open PySem PySem.Spec PyProof.Rows L2
set_option autoImplicit false
/-! ### 5. a def's promise, with the guards known to be clear (repr asks it) -/
structure FnG (P : Program) (w : World) (K : PySem.W.Frag) (mg : Str → Option Value) (base : Heap) (k : Nat) (f : Addr) (fd : FuncData) (ps : List Str) (sp : Sp) : Prop where
  len : ∀ vs H Q E, sp vs H Q E → vs.length = ps.length
  go : ∀ (A : Around) (outer : List Env) (s : Shared) (H : Hp) (args : Args) (us : List Value) (vs : List V) (Q : VK) (E : XK), A.guards = some [] → Room k A → Env0 P w K mg base A outer s H →
    BindsTo s fd args (ps.zip us) → Vals vs us → sp vs H Q E → codeAny (model P w) A (.call (.ref f) args) (CR (L2.CX P w) outer P w H s Q E) s
theorem FnG.mono {P : Program} {w : World} {K : PySem.W.Frag} {mg : Str → Option Value} {base : Heap} {j k : Nat} {f : Addr} {fd : FuncData} {ps : List Str} {sp : Sp} (F : FnG P w K mg base j f fd ps sp) (h : j ≤ k) : FnG P w K mg base k f fd ps sp :=
  ⟨F.len, fun A outer s H args us vs Q E g hr => F.go A outer s H args us vs Q E g (hr.mono h)⟩
/-- a def of the top keeps a promise, by its body -/
theorem fng_of {P : Program} {w : World} {K : PySem.W.Frag} {mg : Str → Option Value} {base : Heap} {k : Nat} {f : Addr} {x : Str} {st : Stmt} {fd : FuncData} {N ps : List Str} {sp : Sp}
    (F : FunD K x x (defArgs st) (defBody st) (defScope st) [] [] f fd) (S : FnScope N ps (defScope st)) (hl : ∀ vs H Q E, sp vs H Q E → vs.length = ps.length)
    (hb : ∀ (cdv : Value) (A : Around) (outer : List Env) (s : Shared) (H : Hp) (vs : List V) (Q : VK) (E : XK), A.guards = some [] → Room k (A.deeper (envOfC x (defScope st) s.heap.objs.size f cdv)) → sp vs H Q E →
      ∃ t, PSs (cxOf (L2.CX P w) P w K mg base N x (defScope st) f cdv A outer s H E) (defBody st) t ∧ t { nx := fun _ H' => Q .non H', rt := Q } (start N vs) H) : FnG P w K mg base (k + 1) f fd ps sp := by
  obtain ⟨oc, od, dV, kV, doc, pm, an, cdv, ct, osl, efd, lk, hcd, _, _⟩ := F.ex
  subst efd
  refine ⟨hl, fun A outer s H args us vs Q E g hr e0 hbd r hsp => ?_⟩
  have KX : K.In s.heap := e0.mod.kin.keeps fun b o e => (e0.bs b o e).1
  have nl : s.heap.NoLimit := e0.mod.nolimit.keeps fun b o e => (e0.bs b o e).1
  have hkd : ∀ y ∈ ps.zip us, (defScope st).names.lookup y.1 = some .local ∨ ((defScope st).names.lookup y.1 = some .cell ∧ ((cellsFrom (s.heap.objs.size + 1) (defScope st).names []).lookup y.1).isSome = true) := by
    rintro ⟨n, v⟩ hy
    rcases S.par n (List.of_mem_zip hy).1 with q | q
    · exact .inl q
    · exact .inr ⟨q, PySem.W.cellsFrom_some _ _ _ (.inl q)⟩
  refine codeAny_call_function hr.depth (KX _ _ lk) rfl S.co S.gen rfl (PySem.W.codeRec_of KX hcd) (hbd _ _ _ _ ?_)
  refine wpAny_newFunctionEnv_cells S.kind hkd fun env he s1 y => ?_
  subst he
  refine ⟨nl.keeps y.toInCall.keep, codeAny_func ?_⟩
  obtain ⟨t, ht, hq⟩ := hb cdv A outer s H vs Q E g (hr.deeper _) hsp
  have I := inv_start (CX := L2.CX P w) (E := E) S hr.hd e0 (hl _ _ _ _ hsp) r y
  refine wpAny_mono (ht.run [] s1 (start N vs) H _ I hq) (fun fl s' hs => ?_) fun e s' hs => hs
  cases fl with
  | ret u =>
    obtain ⟨v, σ', H', J, rv, q⟩ := hs
    exact ⟨v, H', J.os, J.bare, J.base, J.hok, rv, q⟩
  | next =>
    obtain ⟨σ', H', J, q⟩ := hs
    exact ⟨V.non, H', J.os, J.bare, J.base, J.hok, rfl, q⟩
  | brk => exact (let ⟨_, _, _, q⟩ := hs; False.elim q)
  | cont => exact (let ⟨_, _, _, q⟩ := hs; False.elim q)
section
variable {X : Cx} {k : Nat} {f : Addr} {fd : FuncData} {ps : List Str} {sp : Sp} {E : XK} {x : Str} {p pos : Pos} {e : Expr} {es : List Expr} {t : TA}
theorem run_g {pins : List (Addr × Obj)} {σ : St} {H : Hp} {s : Shared} {Q : VK} {us : List Value} {vs : List V} (F : FnG X.prog X.w X.K X.mg X.base k f fd ps sp) (g : X.A.guards = some []) (hr : Room k X.A) (hb : Binds X.K fd ps []) (hx : PassesAt (L2.CX X.prog X.w) X σ E)
    (I : Inv X pins σ H s) (r : Vals vs us) (h : sp vs H Q E) : wpAny (model X.prog X.w) X.A (call (.ref f) us) (EP X pins σ Q) X.xe s := by
  have hl : us.length = ps.length := r.length ▸ F.len _ _ _ _ h
  have b := hb s us I.kIn (by simpa using hl)
  rw [List.append_nil] at b
  refine wpAny_call (codeAny_mono (F.go X.A X.stack s H ⟨us, []⟩ us vs Q E g hr I.env0 b r h) fun r s' hq => ?_)
  cases r with
  | error e => exact hx pins H s e s' I hq
  | ok fl => cases fl <;> first | exact I.after hq | exact False.elim hq
/-- f(..) of a def: what is let out is told at the slots σ -/
def tCl (sp : Sp) (E : St → XK) (t : TA) : TE := fun σ H Q => t σ H fun vs H1 => sp vs H1 Q (E σ)
theorem pe_g {E : St → XK} (F : FnG X.prog X.w X.K X.mg X.base k f fd ps sp) (g : X.A.guards = some []) (hr : Room k X.A) (hg : Gl X x) (hm : X.mg x = some (.ref f)) (hk : PySem.W.keepIn X.K (.ref f) = true) (hb : Binds X.K fd ps [])
    (hx : ∀ σ, PassesAt (L2.CX X.prog X.w) X σ (E σ)) (ha : PA X (e :: es) t) (hdb : (x == ("__debug__" : Str)) = false := by decide) (he : starEach (e :: es) X.env = (false, eval e X.env) :: starEach es X.env := by rfl)
    (hpl : (backTo pos (starEach es X.env)).any (·.1) = false := by rfl) : PE X (.Call (.Name x p) (e :: es) [] pos) (tCl sp E t) := by
  refine ⟨fun pins s σ H Q I h => wpAny_Call_Name_kw (ld_glob I hg hm ?_ hdb)⟩
  exact PySem.W.callWith_K (h₀ := X.base) I.ok.mod.kin hk (thn (ha.run pos pins s σ H _ I h) fun us s1 ⟨vs, H1, I1, r, q⟩ => ⟨I1.kIn, run_g F g hr hb (hx σ) I1 r q⟩) he hpl
theorem pe_g0 {E : St → XK} (F : FnG X.prog X.w X.K X.mg X.base k f fd ps sp) (g : X.A.guards = some []) (hr : Room k X.A) (hg : Gl X x) (hm : X.mg x = some (.ref f)) (hk : PySem.W.keepIn X.K (.ref f) = true) (hb : Binds X.K fd ps [])
    (hx : ∀ σ, PassesAt (L2.CX X.prog X.w) X σ (E σ)) (hdb : (x == ("__debug__" : Str)) = false := by decide) : PE X (.Call (.Name x p) [] [] pos) (tCl sp E tNil) := by
  refine ⟨fun pins s σ H Q I h => wpAny_Call_Name_kw (ld_glob I hg hm ?_ hdb)⟩
  exact PySem.W.callWith_K0 I.kIn hk (run_g (us := []) F g hr hb (hx σ) I .nil h)
end

/-! ### 6. promises by values -/
/-- what is asked of the arguments' values, the answer, the class that is raised -/
abbrev FS := List W → (W → Prop) → (Str → Prop) → Prop
@[simp] def W.arg : W → W
  | .d x => .d x
  | .fr xs => .d (.list xs)
  | .ow xs => .d (.list xs)
  | .bag => .bag
@[simp] def W.isOw : W → Bool
  | .ow _ => true
  | _ => false
mutual
@[simp] def plainD : D → Bool
  | .list _ => false
  | .tuple xs => plainDs xs
  | .dict _ => true
  | .none => true
  | .bool _ => true
  | .int _ => true
  | .str _ => true
@[simp] def plainDs : List D → Bool
  | [] => true
  | x :: xs => plainD x && plainDs xs
end
@[simp] def W.plain : W → Bool
  | .d x => plainD x
  | .fr xs => plainDs xs
  | _ => false
/-- the values of arguments: data or the bag -/
@[simp] def W.isArg : W → Prop
  | .d _ => True
  | .bag => True
  | _ => False
/-- what a def asks, answers, raises (by the class's name) -/
structure Prom where
  n : Nat
  pre : List W → Prop
  post : List W → W → Prop
  exc : List W → Str → Prop := fun _ _ => False
def Prom.fs (S : Prom) : FS := fun xs Q E => xs.length = S.n ∧ S.pre xs ∧ (∀ z, S.post xs z → Q z) ∧ ∀ c, S.exc xs c → E c
def spW (K : PySem.W.Frag) (ec : Str → Addr) (Φ : Prom) : Sp := fun vs H Q E =>
  ∃ (S : Addr → Prop) (bg : Option (Addr × Addr)) (xs : List W), (∀ a, S a → ¬ No H a) ∧ (∀ p c, bg = some (p, c) → BagOk H p c) ∧ LamX.Tabs ((tabK K).map (·.2)) H ∧ (∀ x ∈ xs, x.isArg) ∧
    WRs ⟨K, S, H, bg⟩ [] [] H H vs xs ∧ Φ.fs xs (fun z => ∀ v H', Ext ⟨K, S, H, bg⟩ H H' → WR ⟨K, S, H, bg⟩ [] [] H H' v z → Q v H') (fun c => ∀ H', Ext ⟨K, S, H, bg⟩ H H' → E (.ref (ec c)) none H')
theorem WRs.length {G : Gh} {σ : St} {H H' : Hp} {ρ : Rho} {vs : List V} {xs : List W} (h : WRs G ρ σ H H' vs xs) : vs.length = xs.length := Paired.length h
theorem no_ow {σ : St} {a : Addr} : ¬ Ow [] σ a := fun ⟨i, ds, h, _⟩ => by simp at h
theorem Sta.nil {K : PySem.W.Frag} {S : Addr → Prop} {H : Hp} {bg : Option (Addr × Addr)} (hS : ∀ a, S a → ¬ No H a) (hb : ∀ p c, bg = some (p, c) → BagOk H p c) (ht : LamX.Tabs ((tabK K).map (·.2)) H) : Sta ⟨K, S, H, bg⟩ [] H [] where
  len := rfl
  im := fun i d e => by simp at e
  ow := fun i d e => by simp at e
  uq := fun i j ds es p e => by simp at e
  bag := fun i e => by simp at e
  keep := fun a u _ _ e => e
  dom := hS
  bok := hb
  tok := ht
mutual
/-- plain data stands clear of any list -/
theorem Rp.plain {K : PySem.W.Frag} {Av Av' : Addr → Prop} {H : Hp} (hA : ∀ a, Av' a → Av a ∨ ∃ xs, H a = some (.lst xs)) : ∀ (d : D) (v : V), plainD d = true → Rp K Av H v d → Rp K Av' H v d
  | .none, _, _, h => by cases h; exact .non
  | .bool b, _, _, h => by cases h; exact .bl b
  | .int i, _, _, h => by cases h; exact .int i
  | .str x, _, _, h => by cases h; exact .str x
  | .list ds, _, p, h => by simp only [plainD] at p; cases p
  | .tuple ds, _, p, h => by
    cases h with
    | tup h1 r =>
      refine .tup ?_ (Rps.plain hA ds _ (by simpa only [plainD] using p) r)
      rcases h1 with ⟨na, rd⟩ | k
      · refine .inl ⟨fun z => ?_, rd⟩
        rcases hA _ z with z | ⟨xs, z⟩
        · exact na z
        · rw [rd] at z; cases z
      · exact .inr k
  | .dict _, _, _, h => by
    cases h with
    | fn x => exact .fn x
    | ob a => exact .ob a
theorem Rps.plain {K : PySem.W.Frag} {Av Av' : Addr → Prop} {H : Hp} (hA : ∀ a, Av' a → Av a ∨ ∃ xs, H a = some (.lst xs)) : ∀ (ds : List D) (vs : List V), plainDs ds = true → Rps K Av H vs ds → Rps K Av' H vs ds
  | [], _, _, h => by cases h; exact .nil
  | d :: ds, _, p, h => by
    cases h with
    | cons h1 h2 =>
      have p' : (plainD d && plainDs ds) = true := by simpa only [plainDs] using p
      rw [Bool.and_eq_true] at p'
      exact .cons (Rp.plain hA d _ p'.1 h1) (Rps.plain hA ds _ p'.2 h2)
end
section
variable {G : Gh} {σ : St} {H H1 H' : Hp} {ρ : Rho}
/-- arguments, as the callee sees them: what it may not touch is all but the lists handed in -/
theorem args_go (s : Sta G σ H ρ) (T : Addr → Prop) (hT : ∀ a, T a → G.av ρ σ a) (hT2 : ∀ p, Ow ρ σ p → ¬ T p ∨ ∀ (v : V) (xs : List D), True) :
    ∀ {vs : List V} {xs : List W}, WRs G ρ σ H1 H vs xs → (∀ a, T a → G.av ρ σ a) → (∀ v ds, (v, W.ow ds) ∈ vs.zip xs → ∀ p, v = .ref p → ¬ T p ∧ ¬ G.isB p) → (∀ v ds, (v, W.fr ds) ∈ vs.zip xs → ∀ p, v = .ref p → ¬ T p ∧ ¬ G.isB p) →
      WRs ⟨G.K, T, H, G.bg⟩ [] [] H H vs (xs.map W.arg)
  | _, _, .nil, _, _, _ => .nil
  | v :: vs, x :: xs, .cons r t, h1, h2, h3 => by
    have ih := args_go s T hT hT2 t h1 (fun v ds hm => h2 v ds (List.mem_cons_of_mem _ hm)) (fun v ds hm => h3 v ds (List.mem_cons_of_mem _ hm))
    have av : ∀ a, Gh.av ⟨G.K, T, H, G.bg⟩ [] [] a → G.av ρ σ a := fun a z => by
      rcases z with z | z | z
      · exact h1 a z
      · exact .inr (.inl z)
      · exact absurd z no_ow
    refine .cons ?_ ih
    cases x with
    | d x => exact Rp.mono (fun a z => .inl (av a z)) (fun _ _ _ _ e => e) _ _ r
    | fr ds =>
      obtain ⟨p, us, e, e1, e2, e3⟩ := r
      obtain ⟨n1, n2⟩ := h3 v ds List.mem_cons_self p e
      subst e
      refine Rp.lst ?_ e2 (Rps.mono (fun a z => .inl (av a z)) (fun _ _ _ _ e => e) _ _ e3.less)
      rintro (z | z | z)
      · exact n1 z
      · exact n2 z
      · exact no_ow z
    | ow ds =>
      obtain ⟨p, us, e, e1, e2, e3⟩ := r
      obtain ⟨n1, n2⟩ := h2 v ds List.mem_cons_self p e
      subst e
      refine Rp.lst ?_ e2 (Rps.mono (fun a z => .inl (av a z)) (fun _ _ _ _ e => e) _ _ e3)
      rintro (z | z | z)
      · exact n1 z
      · exact n2 z
      · exact no_ow z
    | bag => exact r
end
def wCall (Φ : Prom) (ws : WA) : WE := fun ρ Q E => ws ρ (fun xs => Φ.fs (xs.map W.arg) (fun z => (xs.any W.isOw = true → z.plain = true) ∧ Q z) E) E
section
variable {X : Cx} {ec : Str → Addr} {k n : Nat} {f : Addr} {fd : FuncData} {ps : List Str} {x : Str} {p pos : Pos} {e : Expr} {es : List Expr} {ws : WA} {Φ : Prom}
theorem isArg_arg (x : W) : x.arg.isArg := by cases x <;> trivial
/-- the heart of a call -/
theorem call_go {G : Gh} {σ : St} {H H1 : Hp} {ρ : Rho} {vs : List V} {xs : List W} {Q : W → Prop} {E : Str → Prop} {Q' : VK} {E' : XK} (hK : G.K = X.K) (s0 : Sta G σ H ρ) (e1 : Ext G H H1) (r : WRs G ρ σ H H1 vs xs)
    (h : Φ.fs (xs.map W.arg) (fun z => (xs.any W.isOw = true → z.plain = true) ∧ Q z) E)
    (kq : ∀ v H' z, Ext G H H' → WR G ρ σ H H' v z → ((xs.any W.isOw = true → z.plain = true) ∧ Q z) → Q' v H') (ke : ∀ c H', Ext G H H' → E c → E' (.ref (ec c)) none H') : spW X.K ec Φ vs H1 Q' E' := by
  have s := s0.ext e1
  let T : Addr → Prop := fun a => G.av ρ σ a ∧ ∀ v ds, (v, W.ow ds) ∈ vs.zip xs → v ≠ .ref a
  have avT : ∀ a, Gh.av ⟨X.K, T, H1, G.bg⟩ [] [] a → G.av ρ σ a := fun a z => by
    rcases z with z | z | z
    · exact z.1
    · exact .inr (.inl z)
    · exact absurd z no_ow
  have frP : ∀ {us : List V} {ys : List W}, WRs G ρ σ H H1 us ys → ∀ v ds, (v, W.fr ds) ∈ us.zip ys → ∀ p, v = .ref p → No H p := by
    intro us ys hr
    induction hr with
    | nil => intro v ds hm; simp at hm
    | cons r t ih =>
      intro v ds hm q ev
      rcases List.mem_cons.mp hm with e | hm
      · cases e
        obtain ⟨p, us, e, e1, _⟩ := r
        rw [ev] at e; cases e; exact e1
      · exact ih v ds hm q ev
  have owP : ∀ {us : List V} {ys : List W}, WRs G ρ σ H H1 us ys → ∀ v ds, (v, W.ow ds) ∈ us.zip ys → ∃ p, v = .ref p ∧ Ow ρ σ p ∧ ∃ xs, H1 p = some (.lst xs) := by
    intro us ys hr
    induction hr with
    | nil => intro v ds hm; simp at hm
    | cons r t ih =>
      intro v ds hm
      rcases List.mem_cons.mp hm with e | hm
      · cases e
        obtain ⟨p, us, e, e1, e2, _⟩ := r
        exact ⟨p, e, e1, us, e2⟩
      · exact ih v ds hm
  refine ⟨T, G.bg, xs.map W.arg, fun a z => s.avdom z.1, s.bok, hK ▸ s.tok, fun x hx => ?_, ?_, ?_⟩
  · obtain ⟨y, _, rfl⟩ := List.mem_map.mp hx
    exact isArg_arg y
  · have q := args_go (H1 := H) s T (fun a z => z.1) (fun p hp => .inr fun _ _ => trivial) r (fun a z => z.1) (fun v ds hm q ev => ?_) (fun v ds hm q ev => ?_)
    · rw [hK] at q; exact q
    · obtain ⟨p', e, ho, _⟩ := owP r v ds hm
      rw [ev] at e; cases e
      obtain ⟨i, es, h1, h2⟩ := ho
      obtain ⟨q, us, e1, _, _, _, _, e6⟩ := s.ow i es h1
      rw [h2] at e1; cases e1
      exact ⟨fun z => z.2 v ds hm ev, e6⟩
    · have hn := frP r v ds hm q ev
      exact ⟨fun z => s0.noav hn z.1, fun z => s0.noav hn (.inr (.inl z))⟩
  · refine ⟨h.1, h.2.1, fun z pz v H' x2 rz => ?_, fun c pc H' x2 => ?_⟩
    · have hz := h.2.2.1 z pz
      have x2' : Ext G H1 H' := ⟨x2.keep, x2.bok, by have q := x2.tok; unfold Gh.T at q ⊢; rw [hK]; exact q⟩
      refine kq v H' z (e1.trans x2') ?_ hz
      -- back into the caller's state
      have hown : ∀ a, G.av ρ σ a → Gh.av ⟨X.K, T, H1, G.bg⟩ [] [] a ∨ (xs.any W.isOw = true ∧ ∃ ys, H' a = some (.lst ys)) := fun a za => by
        by_cases c : ∃ v ds, (v, W.ow ds) ∈ vs.zip xs ∧ v = .ref a
        · obtain ⟨v, ds, hm, ev⟩ := c
          obtain ⟨p', e, ho, ys, hy⟩ := owP r v ds hm
          rw [ev] at e; cases e
          refine .inr ⟨List.any_eq_true.mpr ⟨_, (List.of_mem_zip hm).2, rfl⟩, ys, x2'.keep _ _ (s.ownP ho) noT_lst hy⟩
        · exact .inl (.inl ⟨za, fun v ds hm ev => c ⟨v, ds, hm, ev⟩⟩)
      have two : ∀ (d : D) (u : V), (xs.any W.isOw = true → plainD d = true) → Rp X.K (Gh.av ⟨X.K, T, H1, G.bg⟩ [] []) H' u d → Rp G.K (G.av ρ σ) H' u d := fun d u hp rr => by
        rw [hK]
        by_cases c : xs.any W.isOw = true
        · exact Rp.plain (fun a za => (hown a za).imp id fun q => q.2) d u (hp c) rr
        · exact Rp.mono (fun a za => (hown a za).elim .inl fun q => absurd q.1 c) (fun _ _ _ _ e => e) d u rr
      have twos : ∀ (d : List D) (u : List V) (q : Addr), (xs.any W.isOw = true → plainDs d = true) → Rps X.K (fun a => Gh.av ⟨X.K, T, H1, G.bg⟩ [] [] a ∨ a = q) H' u d → Rps G.K (fun a => G.av ρ σ a ∨ a = q) H' u d := fun d u q hp rr => by
        rw [hK]
        by_cases c : xs.any W.isOw = true
        · exact Rps.plain (fun a za => za.elim (fun z => (hown a z).imp .inl fun y => y.2) fun z => .inl (.inr z)) d u (hp c) rr
        · exact Rps.mono (fun a za => za.elim (fun z => (hown a z).elim (fun y => .inl (.inl y)) fun y => absurd y.1 c) fun z => .inl (.inr z)) (fun _ _ _ _ e => e) d u rr
      cases z with
      | d d => exact two d v hz.1 rz
      | fr ds =>
        obtain ⟨p, us, e, n1, n2, n3⟩ := rz
        exact ⟨p, us, e, s0.fresh e1 n1, n2, twos ds us p hz.1 n3⟩
      | ow ds =>
        obtain ⟨p, us, e, n1, _⟩ := rz
        exact absurd n1 no_ow
      | bag => exact rz
    · exact ke c H' (e1.trans ⟨x2.keep, x2.bok, by have q := x2.tok; unfold Gh.T at q ⊢; rw [hK]; exact q⟩) (h.2.2.2 c pc)
theorem sim_call (F : FnG X.prog X.w X.K X.mg X.base k f fd ps (spW X.K ec Φ)) (g : X.A.guards = some []) (hr : Room k X.A) (hg : Gl X x) (hm : X.mg x = some (.ref f)) (hk : PySem.W.keepIn X.K (.ref f) = true) (hb : Binds X.K fd ps [])
    (ha : SimA X ec (e :: es) ws) (hdb : (x == ("__debug__" : Str)) = false := by decide) (he : starEach (e :: es) X.env = (false, eval e X.env) :: starEach es X.env := by rfl)
    (hpl : (backTo pos (starEach es X.env)).any (·.1) = false := by rfl) : SimE X ec (.Call (.Name x p) (e :: es) [] pos) (wCall Φ ws) := by
  refine ⟨fun G σ H ρ Q E hK s tk h => ?_⟩
  let W0 : WX := fun cls d σ' H' => ∃ c, cls = .ref (ec c) ∧ d = none ∧ σ' = σ ∧ Ext G H H' ∧ E c
  have hx : ∀ σ1, PassesAt (L2.CX X.prog X.w) X σ1 (fun cls d H' => W0 cls d σ1 H') := fun σ1 => passAt (W := W0) tk σ1
  refine peu (pe_g (E := fun σ1 cls d H' => W0 cls d σ1 H') F g hr hg hm hk hb hx paU hdb he hpl) ?_
  refine (ha.run G σ H ρ _ E hK s tk h).mono fun vs H1 ⟨xs, rt, h1⟩ => ?_
  exact call_go hK s rt.ext (rt.wrs s) h1 (fun v H' z x rz q => ⟨z, x, rz, q.2⟩) fun c H' x hc => ⟨c, rfl, rfl, rfl, x, hc⟩
end
end R
namespace R
open PySem PySem.Spec PyProof.Rows L2
set_option autoImplicit false
/-! ### 7. slots are stored -/
section
variable {G : Gh} {σ : St} {H H' Hs : Hp} {ρ : Rho} {i : Nat} {v : V} {d : D} {p : Addr}
theorem av_set {e : Option En} (hb : ∀ ds, e ≠ some (.ow ds)) {x : Option V} {a : Addr} (h : G.av (ρ.set i e) (σ.set i x) a) : G.av ρ σ a := by
  rcases h with h | h | ⟨j, ds, h1, h2⟩
  · exact .inl h
  · exact .inr (.inl h)
  · by_cases hj : j = i
    · subst hj
      rw [List.getElem?_set] at h1
      split at h1
      · split at h1
        · exact absurd (Option.some.inj h1) (hb ds)
        · cases h1
      · rename_i hh; exact absurd rfl hh
    · rw [List.getElem?_set_ne (Ne.symm hj)] at h1 h2
      exact .inr (.inr ⟨j, ds, h1, h2⟩)
theorem Rp.fit {A A' : Addr → Prop} (h : ∀ a, A' a → A a) {v : V} {d : D} {K : PySem.W.Frag} (r : Rp K A H v d) : Rp K A' H v d := Rp.mono (fun a z => .inl (h a z)) (fun _ _ _ _ e => e) d v r
theorem Rps.fit {A A' : Addr → Prop} (h : ∀ a, A' a → A a) {v : List V} {d : List D} {K : PySem.W.Frag} (r : Rps K A H v d) : Rps K A' H v d := Rps.mono (fun a z => .inl (h a z)) (fun _ _ _ _ e => e) d v r
/-- a slot gets data -/
theorem Sta.set (s : Sta G σ H ρ) (r : Rp G.K (G.av ρ σ) H v d) : Sta G (σ.set i (some v)) H (ρ.set i (some (.im d))) := by
  have hav : ∀ a, G.av (ρ.set i (some (.im d))) (σ.set i (some v)) a → G.av ρ σ a := fun a => av_set (fun ds z => by cases z)
  refine ⟨by rw [List.length_set, List.length_set]; exact s.len, fun j d' e => ?_, fun j ds e => ?_, fun j k ds es q e1 e2 e3 e4 => ?_, fun j e => ?_, s.keep, s.dom, s.bok, s.tok⟩
  · by_cases hj : j = i
    · subst hj
      by_cases hl : j < ρ.length
      · rw [List.getElem?_set_self hl] at e
        cases e
        exact ⟨v, List.getElem?_set_self (by rw [s.len]; exact hl), r.fit hav⟩
      · rw [List.getElem?_eq_none (by simpa using hl)] at e; cases e
    · rw [List.getElem?_set_ne (Ne.symm hj)] at e
      obtain ⟨u, h1, h2⟩ := s.im j d' e
      exact ⟨u, by rw [List.getElem?_set_ne (Ne.symm hj)]; exact h1, h2.fit hav⟩
  · by_cases hj : j = i
    · subst hj
      by_cases hl : j < ρ.length
      · rw [List.getElem?_set_self hl] at e; cases e
      · rw [List.getElem?_eq_none (by simpa using hl)] at e; cases e
    · rw [List.getElem?_set_ne (Ne.symm hj)] at e
      obtain ⟨p, vs, h1, h2, h3, h4⟩ := s.ow j ds e
      exact ⟨p, vs, by rw [List.getElem?_set_ne (Ne.symm hj)]; exact h1, h2, h3.fit hav, h4⟩
  · have nj : j ≠ i := fun q => by
      subst q
      by_cases hl : j < ρ.length
      · rw [List.getElem?_set_self hl] at e1; cases e1
      · rw [List.getElem?_eq_none (by simpa using hl)] at e1; cases e1
    have nk : k ≠ i := fun q => by
      subst q
      by_cases hl : k < ρ.length
      · rw [List.getElem?_set_self hl] at e2; cases e2
      · rw [List.getElem?_eq_none (by simpa using hl)] at e2; cases e2
    rw [List.getElem?_set_ne (Ne.symm nj)] at e1 e3
    rw [List.getElem?_set_ne (Ne.symm nk)] at e2 e4
    exact s.uq j k ds es q e1 e2 e3 e4
  · by_cases hj : j = i
    · subst hj
      by_cases hl : j < ρ.length
      · rw [List.getElem?_set_self hl] at e; cases e
      · rw [List.getElem?_eq_none (by simpa using hl)] at e; cases e
    · rw [List.getElem?_set_ne (Ne.symm hj)] at e ⊢
      exact s.bag j e
/-- a slot is forgotten -/
theorem Sta.wipe1 (s : Sta G σ H ρ) (x : Option V) : Sta G (σ.set i x) H (ρ.set i none) := by
  have hav : ∀ a, G.av (ρ.set i none) (σ.set i x) a → G.av ρ σ a := fun a => av_set (fun ds z => by cases z)
  have ne : ∀ {j : Nat} {e : En}, (ρ.set i none)[j]? = some (some e) → j ≠ i ∧ ρ[j]? = some (some e) := fun {j e} h => by
    by_cases hj : j = i
    · subst hj
      by_cases hl : j < ρ.length
      · rw [List.getElem?_set_self hl] at h; cases h
      · rw [List.getElem?_eq_none (by simpa using hl)] at h; cases h
    · rw [List.getElem?_set_ne (Ne.symm hj)] at h
      exact ⟨hj, h⟩
  refine ⟨by rw [List.length_set, List.length_set]; exact s.len, fun j d' e => ?_, fun j ds e => ?_, fun j k ds es q e1 e2 e3 e4 => ?_, fun j e => ?_, s.keep, s.dom, s.bok, s.tok⟩
  · obtain ⟨hj, e⟩ := ne e
    obtain ⟨u, h1, h2⟩ := s.im j d' e
    exact ⟨u, by rw [List.getElem?_set_ne (Ne.symm hj)]; exact h1, h2.fit hav⟩
  · obtain ⟨hj, e⟩ := ne e
    obtain ⟨p, vs, h1, h2, h3, h4⟩ := s.ow j ds e
    exact ⟨p, vs, by rw [List.getElem?_set_ne (Ne.symm hj)]; exact h1, h2, h3.fit hav, h4⟩
  · obtain ⟨nj, e1⟩ := ne e1
    obtain ⟨nk, e2⟩ := ne e2
    rw [List.getElem?_set_ne (Ne.symm nj)] at e3
    rw [List.getElem?_set_ne (Ne.symm nk)] at e4
    exact s.uq j k ds es q e1 e2 e3 e4
  · obtain ⟨hj, e⟩ := ne e
    rw [List.getElem?_set_ne (Ne.symm hj)]
    exact s.bag j e
theorem av_own {ds : List D} {a : Addr} (h : G.av (ρ.set i (some (.ow ds))) (σ.set i (some (.ref p))) a) : G.av ρ σ a ∨ a = p := by
  rcases h with h | h | ⟨j, es, h1, h2⟩
  · exact .inl (.inl h)
  · exact .inl (.inr (.inl h))
  · by_cases hj : j = i
    · subst hj
      by_cases hl : j < σ.length
      · rw [List.getElem?_set_self hl] at h2; cases h2; exact .inr rfl
      · rw [List.getElem?_eq_none (by simpa using hl)] at h2; cases h2
    · rw [List.getElem?_set_ne (Ne.symm hj)] at h1 h2
      exact .inl (.inr (.inr ⟨j, es, h1, h2⟩))
/-- a slot gets a new list to own: it was not there at Hs, of which the slots are told -/
theorem Sta.own (s : Sta G σ Hs ρ) (x : Ext G Hs H) {vs : List V} {ds : List D} (hn : No Hs p) (hp : H p = some (.lst vs)) (r : Rps G.K (fun a => G.av ρ σ a ∨ a = p) H vs ds) :
    Sta G (σ.set i (some (.ref p))) H (ρ.set i (some (.ow ds))) := by
  have sH := s.ext x
  have hav : ∀ a, G.av (ρ.set i (some (.ow ds))) (σ.set i (some (.ref p))) a → G.av ρ σ a ∨ No Hs a := fun a z => (av_own z).imp id fun e => by rw [e]; exact hn
  have up : ∀ {v : V} {d : D}, Rp G.K (G.av ρ σ) Hs v d → Rp G.K (G.av (ρ.set i (some (.ow ds))) (σ.set i (some (.ref p)))) H v d := fun {v d} r =>
    Rp.mono hav (fun a u n t e => x.keep a u (fun z => n (.inr (.inl z.b))) t e) d v r
  have ups : ∀ {v : List V} {d : List D}, Rps G.K (G.av ρ σ) Hs v d → Rps G.K (G.av (ρ.set i (some (.ow ds))) (σ.set i (some (.ref p)))) H v d := fun {v d} r =>
    Rps.mono hav (fun a u n t e => x.keep a u (fun z => n (.inr (.inl z.b))) t e) d v r
  have oldne : ∀ (j : Nat) (es : List D), ρ[j]? = some (some (En.ow es)) → σ[j]? ≠ some (some (V.ref p)) := fun j es h1 h2 => by
    obtain ⟨q, us, h3, h4, _⟩ := s.ow j es h1
    rw [h2] at h3; cases h3
    exact hn.lst h4
  refine ⟨by rw [List.length_set, List.length_set]; exact s.len, fun j d' e => ?_, fun j es e => ?_, fun j k es fs q e1 e2 e3 e4 => ?_, fun j e => ?_, sH.keep, sH.dom, sH.bok, sH.tok⟩
  · by_cases hj : j = i
    · subst hj
      by_cases hl : j < ρ.length
      · rw [List.getElem?_set_self hl] at e; cases e
      · rw [List.getElem?_eq_none (by simpa using hl)] at e; cases e
    · rw [List.getElem?_set_ne (Ne.symm hj)] at e
      obtain ⟨u, h1, h2⟩ := s.im j d' e
      exact ⟨u, by rw [List.getElem?_set_ne (Ne.symm hj)]; exact h1, up h2⟩
  · by_cases hj : j = i
    · subst hj
      by_cases hl : j < ρ.length
      · rw [List.getElem?_set_self hl] at e
        cases e
        refine ⟨p, vs, List.getElem?_set_self (by rw [s.len]; exact hl), hp, r.fit fun a z => av_own z, fun u t q => hn u t (s.keep p u (s.pne hn) t q), fun z => s.dom p z hn, fun z => s.noav hn (.inr (.inl z))⟩
      · rw [List.getElem?_eq_none (by simpa using hl)] at e; cases e
    · rw [List.getElem?_set_ne (Ne.symm hj)] at e
      obtain ⟨q, us, h1, h2, h3, h4, h5, h6⟩ := s.ow j es e
      exact ⟨q, us, by rw [List.getElem?_set_ne (Ne.symm hj)]; exact h1, x.keep q _ (fun z => h6 z.b) noT_lst h2, ups h3, h4, h5, h6⟩
  · by_cases hj : j = i
    · by_cases hk : k = i
      · rw [hj, hk]
      · subst hj
        rw [List.getElem?_set_ne (Ne.symm hk)] at e2 e4
        by_cases hl : j < σ.length
        · rw [List.getElem?_set_self hl] at e3; cases e3
          exact absurd e4 (oldne k fs e2)
        · rw [List.getElem?_eq_none (by simpa using hl)] at e3; cases e3
    · rw [List.getElem?_set_ne (Ne.symm hj)] at e1 e3
      by_cases hk : k = i
      · subst hk
        by_cases hl : k < σ.length
        · rw [List.getElem?_set_self hl] at e4; cases e4
          exact absurd e3 (oldne j es e1)
        · rw [List.getElem?_eq_none (by simpa using hl)] at e4; cases e4
      · rw [List.getElem?_set_ne (Ne.symm hk)] at e2 e4
        exact s.uq j k es fs q e1 e2 e3 e4
  · by_cases hj : j = i
    · subst hj
      by_cases hl : j < ρ.length
      · rw [List.getElem?_set_self hl] at e; cases e
      · rw [List.getElem?_eq_none (by simpa using hl)] at e; cases e
    · rw [List.getElem?_set_ne (Ne.symm hj)] at e ⊢
      exact s.bag j e
theorem tabs_put {T : List (Addr × Str)} {xs us : List V} (t : LamX.Tabs T H) (h : H p = some (.lst xs)) : LamX.Tabs T (upd H p (.lst us)) := fun z hz => by
  obtain ⟨ps, h1, h2, h3⟩ := t z hz
  refine ⟨ps, by rw [upd_ne (ne_of h1 h (by simp))]; exact h1, h2, fun pos cv hc => ?_⟩
  obtain ⟨c, e1, e2⟩ := h3 pos cv hc
  refine ⟨c, e1, ?_⟩
  rw [upd_ne (ne_of e2 h (by unfold LamX.CodeO; simp))]
  exact e2
/-- an own list is changed -/
theorem Sta.put (s : Sta G σ H ρ) {ds es : List D} {us : List V} (e : ρ[i]? = some (some (.ow ds))) (hσ : σ[i]? = some (some (.ref p))) (r : Rps G.K (G.av ρ σ) H us es) : Sta G σ (upd H p (.lst us)) (ρ.set i (some (.ow es))) := by
  have own : Ow ρ σ p := ⟨i, ds, e, hσ⟩
  obtain ⟨q, vs, h1, h2, h3, h4, h5, h6⟩ := s.ow i ds e
  rw [hσ] at h1; cases h1
  have hl : i < ρ.length := (List.getElem?_eq_some_iff.mp e).1
  have hav : ∀ a, G.av (ρ.set i (some (.ow es))) σ a → G.av ρ σ a := fun a z => by
    rcases z with z | z | ⟨j, fs, z1, z2⟩
    · exact .inl z
    · exact .inr (.inl z)
    · by_cases hj : j = i
      · subst hj; exact .inr (.inr ⟨j, ds, e, z2⟩)
      · rw [List.getElem?_set_ne (Ne.symm hj)] at z1
        exact .inr (.inr ⟨j, fs, z1, z2⟩)
  have keep : ∀ a u, ¬ G.av ρ σ a → noT u → H a = some u → upd H p (.lst us) a = some u := fun a u n _ e => by
    have na : a ≠ p := fun z => n (by rw [z]; exact .inr (.inr own))
    rw [upd_ne na]; exact e
  have up : ∀ {v : V} {d : D}, Rp G.K (G.av ρ σ) H v d → Rp G.K (G.av (ρ.set i (some (.ow es))) σ) (upd H p (.lst us)) v d := fun {v d} r => Rp.mono (fun a z => .inl (hav a z)) keep d v r
  have ups : ∀ {v : List V} {d : List D}, Rps G.K (G.av ρ σ) H v d → Rps G.K (G.av (ρ.set i (some (.ow es))) σ) (upd H p (.lst us)) v d := fun {v d} r => Rps.mono (fun a z => .inl (hav a z)) keep d v r
  refine ⟨by rw [List.length_set]; exact s.len, fun j d' e' => ?_, fun j fs e' => ?_, fun j k fs gs t e1 e2 e3 e4 => ?_, fun j e' => ?_, fun a u n t e' => ?_, fun a ha z => ?_, fun b c eb => ?_, tabs_put s.tok h2⟩
  · by_cases hj : j = i
    · subst hj; rw [List.getElem?_set_self hl] at e'; cases e'
    · rw [List.getElem?_set_ne (Ne.symm hj)] at e'
      obtain ⟨u, k1, k2⟩ := s.im j d' e'
      exact ⟨u, k1, up k2⟩
  · by_cases hj : j = i
    · subst hj
      rw [List.getElem?_set_self hl] at e'
      cases e'
      exact ⟨p, us, hσ, upd_same, ups r, h4, h5, h6⟩
    · rw [List.getElem?_set_ne (Ne.symm hj)] at e'
      obtain ⟨q, ws, k1, k2, k3, k4⟩ := s.ow j fs e'
      have nq : q ≠ p := fun z => by subst z; exact hj (s.uq j i fs ds q e' e k1 hσ)
      exact ⟨q, ws, k1, by rw [upd_ne nq]; exact k2, ups k3, k4⟩
  · have old : ∀ {j : Nat} {fs : List D}, (ρ.set i (some (.ow es)))[j]? = some (some (.ow fs)) → ∃ fs', ρ[j]? = some (some (.ow fs')) := fun {j fs} h => by
      by_cases hj : j = i
      · subst hj; exact ⟨ds, e⟩
      · rw [List.getElem?_set_ne (Ne.symm hj)] at h; exact ⟨fs, h⟩
    obtain ⟨fs', e1⟩ := old e1
    obtain ⟨gs', e2⟩ := old e2
    exact s.uq j k fs' gs' t e1 e2 e3 e4
  · by_cases hj : j = i
    · subst hj; rw [List.getElem?_set_self hl] at e'; cases e'
    · rw [List.getElem?_set_ne (Ne.symm hj)] at e'
      exact s.bag j e'
  · have na : a ≠ p := h4.ne t e'
    rw [upd_ne na]; exact s.keep a u n t e'
  · have na : a ≠ p := fun z => by subst z; exact h5 ha
    exact s.dom a ha fun u t q => z u t (by rw [upd_ne na]; exact q)
  · obtain ⟨n, ns, i1, j1, k1, l1, b1, b2, b3⟩ := s.bok b c eb
    refine ⟨n, ns, i1, j1, k1, l1, ?_, ?_, b3⟩
    · rw [upd_ne (fun z => h6 ⟨b, c, eb, .inl z.symm⟩)]; exact b1
    · rw [upd_ne (fun z => h6 ⟨b, c, eb, .inr z.symm⟩)]; exact b2
/-- an own list is given up: data from now on -/
theorem Sta.rel (s : Sta G σ H ρ) {ds : List D} (e : ρ[i]? = some (some (.ow ds))) : Sta G σ H (ρ.set i (some (.im (.list ds)))) := by
  obtain ⟨p, vs, h1, h2, h3, h4, h5, h6⟩ := s.ow i ds e
  have hl : i < ρ.length := (List.getElem?_eq_some_iff.mp e).1
  have hσ : σ.set i (some (.ref p)) = σ := by
    apply List.ext_getElem?
    intro j
    by_cases hj : j = i
    · subst hj; rw [List.getElem?_set_self (by rw [s.len]; exact hl)]; exact h1.symm
    · rw [List.getElem?_set_ne (Ne.symm hj)]
  have s1 := s.wipe1 (i := i) (some (.ref p))
  rw [hσ] at s1
  have hav : ∀ a, G.av (ρ.set i none) σ a → G.av ρ σ a := fun a z => by
    have := av_set (G := G) (ρ := ρ) (σ := σ) (i := i) (e := none) (x := some (.ref p)) (fun ds z => by cases z) (a := a)
    rw [hσ] at this
    exact this z
  have np : ¬ G.av (ρ.set i none) σ p := by
    rintro (z | z | ⟨j, es, z1, z2⟩)
    · exact h5 z
    · exact h6 z
    · by_cases hj : j = i
      · subst hj; rw [List.getElem?_set_self hl] at z1; cases z1
      · rw [List.getElem?_set_ne (Ne.symm hj)] at z1
        exact hj (s.uq j i es ds p z1 e z2 h1)
  have s2 := s1.set (i := i) (v := .ref p) (d := .list ds) (.lst np h2 (h3.fit hav))
  rw [hσ, List.set_set] at s2
  exact s2
end
end R
namespace R
open PySem PySem.Spec PyProof.Rows L2
set_option autoImplicit false
/-! ### 8. statements -/
structure Out where
  nx : Rho → Prop
  rt : W → Prop
  bk : Rho → Prop := fun _ => False
  ct : Rho → Prop := fun _ => False
  ex : Str → Rho → Prop := fun _ _ => False
abbrev WS := Rho → Out → Prop
def tUS (X : Cx) (st : Stmt) : TS := fun D σ H => ∀ (pins : List (Addr × Obj)) (s : Shared), Inv X pins σ H s → wpAny (model X.prog X.w) X.A (exec st X.env) (SP X pins D) X.xe s
def tUSs (X : Cx) (st : List Stmt) : TS := fun D σ H => ∀ (pins : List (Addr × Obj)) (s : Shared), Inv X pins σ H s → wpAny (model X.prog X.w) X.A (execs st X.env) (SP X pins D) X.xe s
section
variable {X : Cx} {st : Stmt} {sts : List Stmt} {σ : St} {H : Hp} {D : Ends}
theorem psU : PS X st (tUS X st) := ⟨fun pins s σ H D I h => h pins s I⟩
theorem pssU : PSs X sts (tUSs X sts) := ⟨fun pins s σ H D I h => h pins s I⟩
theorem psu {t : TS} (h : PS X st t) (q : t D σ H) : tUS X st D σ H := fun pins s I => h.run pins s σ H D I q
theorem pssu {t : TS} (h : PSs X sts t) (q : t D σ H) : tUSs X sts D σ H := fun pins s I => h.run pins s σ H D I q
end
/-- what was data stays data -/
def Go (G : Gh) (ρ : Rho) (σ : St) (H : Hp) (ρ' : Rho) (σ' : St) (H' : Hp) : Prop := ∀ (v : V) (d : D), Rp G.K (G.av ρ σ) H v d → Rp G.K (G.av ρ' σ') H' v d
section
variable {G : Gh} {ρ ρ1 ρ2 : Rho} {σ σ1 σ2 : St} {H H1 H2 : Hp}
theorem Go.refl : Go G ρ σ H ρ σ H := fun _ _ r => r
theorem Go.trans (a : Go G ρ σ H ρ1 σ1 H1) (b : Go G ρ1 σ1 H1 ρ2 σ2 H2) : Go G ρ σ H ρ2 σ2 H2 := fun v d r => b v d (a v d r)
theorem Go.ext (x : Ext G H H1) : Go G ρ σ H ρ σ H1 := fun v d r => r.ext x
end
structure EndsOk (G : Gh) (ρ : Rho) (σ : St) (H : Hp) (O : Out) (D : Ends) : Prop where
  nx : ∀ σ' H' ρ', Sta G σ' H' ρ' → Go G ρ σ H ρ' σ' H' → O.nx ρ' → D.nx σ' H'
  rt : ∀ v H' z, Ext G G.H0 H' → WR G [] [] G.H0 H' v z → O.rt z → D.rt v H'
  bk : ∀ σ' H' ρ', Sta G σ' H' ρ' → Go G ρ σ H ρ' σ' H' → O.bk ρ' → D.bk σ' H'
  ct : ∀ σ' H' ρ', Sta G σ' H' ρ' → Go G ρ σ H ρ' σ' H' → O.ct ρ' → D.ct σ' H'
def TkS (X : Cx) (ec : Str → Addr) (G : Gh) (ρ : Rho) (σ : St) (H : Hp) (ex : Str → Rho → Prop) : Prop :=
  Takes X fun cls d σ' H' => ∃ c ρ', cls = .ref (ec c) ∧ d = none ∧ Sta G σ' H' ρ' ∧ Go G ρ σ H ρ' σ' H' ∧ ex c ρ'
section
variable {X : Cx} {ec : Str → Addr} {G : Gh} {ρ ρ1 : Rho} {σ σ1 : St} {H H1 : Hp} {O : Out} {D : Ends} {ex : Str → Rho → Prop}
theorem EndsOk.go (e : EndsOk G ρ σ H O D) (g : Go G ρ σ H ρ1 σ1 H1) : EndsOk G ρ1 σ1 H1 O D :=
  ⟨fun a b c s g' q => e.nx a b c s (g.trans g') q, e.rt, fun a b c s g' q => e.bk a b c s (g.trans g') q, fun a b c s g' q => e.ct a b c s (g.trans g') q⟩
theorem TkS.go (t : TkS X ec G ρ σ H ex) (g : Go G ρ σ H ρ1 σ1 H1) : TkS X ec G ρ1 σ1 H1 ex :=
  t.imp fun _ _ _ _ ⟨c, ρ', e1, e2, e3, e4, e5⟩ => ⟨c, ρ', e1, e2, e3, g.trans e4, e5⟩
theorem TkS.tk (t : TkS X ec G ρ σ H ex) (s : Sta G σ H ρ) : Tk X ec G σ H (fun c => ex c ρ) :=
  t.imp fun _ _ _ _ ⟨c, e1, e2, e3, e4, e5⟩ => ⟨c, ρ, e1, e2, e3 ▸ s.ext e4, e3 ▸ Go.ext e4, e5⟩
end
structure SimS (X : Cx) (ec : Str → Addr) (st : Stmt) (w : WS) : Prop where
  run : ∀ (G : Gh) (σ : St) (H : Hp) (ρ : Rho) (O : Out) (D : Ends), G.K = X.K → Sta G σ H ρ → TkS X ec G ρ σ H O.ex → EndsOk G ρ σ H O D → w ρ O → tUS X st D σ H
structure SimSs (X : Cx) (ec : Str → Addr) (st : List Stmt) (w : WS) : Prop where
  run : ∀ (G : Gh) (σ : St) (H : Hp) (ρ : Rho) (O : Out) (D : Ends), G.K = X.K → Sta G σ H ρ → TkS X ec G ρ σ H O.ex → EndsOk G ρ σ H O D → w ρ O → tUSs X st D σ H
section
variable {X : Cx} {ec : Str → Addr} {a b c e : Expr} {es : List Expr} {st : Stmt} {s1 s2 rest : List Stmt} {wa wb wc : WE} {wt : WT} {ws : WA} {w w' u : WS} {pos : Pos}
/-- an expression's value goes on -/
theorem SimE.at (h : SimE X ec a wa) {G : Gh} {σ : St} {H : Hp} {ρ : Rho} {O : Out} (hK : G.K = X.K) (s : Sta G σ H ρ) (t : TkS X ec G ρ σ H O.ex) {Q : W → Prop} (q : wa ρ Q (fun c => O.ex c ρ)) :
    tU X a σ H fun v H' => ∃ x, Ext G H H' ∧ WR G ρ σ H H' v x ∧ Q x := h.run G σ H ρ Q _ hK s (t.tk s) q
def wNext : WS := fun ρ O => O.nx ρ
def wSeq (w u : WS) : WS := fun ρ O => w ρ { O with nx := fun ρ' => u ρ' O }
/-- a word between -/
def wCut (w u : WS) : WS := fun ρ O => ∃ Mid : Rho → Prop, w ρ { O with nx := Mid } ∧ ∀ ρ', Mid ρ' → u ρ' O
theorem ss_nil : SimSs X ec [] wNext := ⟨fun G σ H ρ O D hK s t en h => pssu pss_nil (en.nx σ H ρ s Go.refl h)⟩
theorem ss_one (h : SimS X ec st w) : SimSs X ec [st] w := ⟨fun G σ H ρ O D hK s t en q => pssu (pss_one psU) (h.run G σ H ρ O D hK s t en q)⟩
theorem ss_cons (h : SimS X ec st w) (h2 : SimSs X ec rest u) : SimSs X ec (st :: rest) (wSeq w u) := by
  refine ⟨fun G σ H ρ O D hK s t en q => pssu (pss_cons psU pssU) ?_⟩
  refine h.run G σ H ρ { O with nx := fun ρ' => u ρ' O } _ hK s t ⟨fun σ' H' ρ' s' g q' => ?_, en.rt, en.bk, en.ct⟩ q
  exact h2.run G σ' H' ρ' O D hK s' (t.go g) (en.go g) q'
theorem ss_cut (h : SimS X ec st w) (h2 : SimSs X ec rest u) : SimSs X ec (st :: rest) (wCut w u) := by
  refine ⟨fun G σ H ρ O D hK s t en ⟨Mid, q, k⟩ => pssu (pss_cons psU pssU) ?_⟩
  refine h.run G σ H ρ { O with nx := Mid } _ hK s t ⟨fun σ' H' ρ' s' g q' => ?_, en.rt, en.bk, en.ct⟩ q
  exact h2.run G σ' H' ρ' O D hK s' (t.go g) (en.go g) (k ρ' q')
/-- slot i's own list is data from here on (nothing in the text) -/
def wRel (i : Nat) (u : WS) : WS := fun ρ O => match ρ[i]? with
  | some (some (.ow ds)) => u (ρ.set i (some (.im (.list ds)))) O
  | _ => False
theorem ss_rel (i : Nat) (h2 : SimSs X ec rest u) : SimSs X ec rest (wRel i u) := by
  refine ⟨fun G σ H ρ O D hK s t en q => ?_⟩
  unfold wRel at q
  split at q
  · rename_i ds e
    have s' := s.rel e
    have g : Go G ρ σ H (ρ.set i (some (.im (.list ds)))) σ H := fun v d r => r.fit fun a z => by
      rcases z with z | z | ⟨j, es, z1, z2⟩
      · exact .inl z
      · exact .inr (.inl z)
      · by_cases hj : j = i
        · subst hj
          rw [List.getElem?_set_self (List.getElem?_eq_some_iff.mp e).1] at z1; cases z1
        · rw [List.getElem?_set_ne (Ne.symm hj)] at z1
          exact .inr (.inr ⟨j, es, z1, z2⟩)
    exact h2.run G σ H _ O D hK s' (t.go g) (en.go g) q
  · exact q.elim
def wBrk : WS := fun ρ O => O.bk ρ
def wCnt : WS := fun ρ O => O.ct ρ
theorem s_pass : SimS X ec (.Pass pos) wNext := ⟨fun G σ H ρ O D hK s t en h => psu ps_pass (en.nx σ H ρ s Go.refl h)⟩
theorem s_break : SimS X ec (.Break pos) wBrk := ⟨fun G σ H ρ O D hK s t en h => psu ps_break (en.bk σ H ρ s Go.refl h)⟩
theorem s_continue : SimS X ec (.Continue pos) wCnt := ⟨fun G σ H ρ O D hK s t en h => psu ps_continue (en.ct σ H ρ s Go.refl h)⟩
/-- never come to -/
theorem s_never : SimS X ec st (fun _ _ => False) := ⟨fun G σ H ρ O D hK s t en h => h.elim⟩
theorem ss_never : SimSs X ec rest (fun _ _ => False) := ⟨fun G σ H ρ O D hK s t en h => h.elim⟩
def wDrop (wa : WE) : WS := fun ρ O => wa ρ (fun _ => O.nx ρ) (fun c => O.ex c ρ)
theorem s_expr (ha : SimE X ec a wa) (hs : swapsWith a none pos.line X.env = pure false := by rfl) : SimS X ec (.Expr a pos) (wDrop wa) :=
  ⟨fun G σ H ρ O D hK s t en h => psu (ps_expr peU hs) ((ha.at hK s t h).mono fun v H' ⟨x, e, r, q⟩ => en.nx σ H' ρ (s.ext e) (Go.ext e) q)⟩
def wRet (wa : WE) : WS := fun ρ O => wa ρ (fun z => match z with
  | .d x => O.rt (.d x)
  | .fr xs => O.rt (.fr xs)
  | .ow xs => O.rt (.fr xs)
  | .bag => False) (fun c => O.ex c ρ)
theorem Sta.e0 {G : Gh} {σ : St} {H : Hp} {ρ : Rho} (s : Sta G σ H ρ) : Ext G G.H0 H := ⟨s.keep, fun p c e _ => s.bok p c e, fun _ => s.tok⟩
theorem Sta.h0 {G : Gh} {σ : St} {H : Hp} {ρ : Rho} (s : Sta G σ H ρ) {p : Addr} (h : No H p) : No G.H0 p := fun u t q => h u t (s.keep p u (s.pne h) t q)
theorem av_nil {G : Gh} {σ σ' : St} {ρ : Rho} {a : Addr} (h : G.av [] σ' a) : G.av ρ σ a := by
  rcases h with h | h | h
  · exact .inl h
  · exact .inr (.inl h)
  · exact absurd h no_ow
theorem s_ret (ha : SimE X ec a wa) : SimS X ec (.Return (some a) pos) (wRet wa) := by
  refine ⟨fun G σ H ρ O D hK s t en h => psu (ps_ret peU) ((ha.at hK s t h).mono fun v H' ⟨x, e, r, q⟩ => ?_)⟩
  have s' := s.ext e
  cases x with
  | d x => exact en.rt v H' (.d x) s'.e0 (Rp.fit (fun a z => av_nil z) r) q
  | fr xs =>
    obtain ⟨p, vs, ev, h1, h2, h3⟩ := r
    exact en.rt v H' (.fr xs) s'.e0 ⟨p, vs, ev, s.h0 h1, h2, h3.fit fun a z => z.imp av_nil id⟩ q
  | ow xs =>
    obtain ⟨p, vs, ev, h1, h2, h3⟩ := r
    obtain ⟨i, ds, o1, o2⟩ := id h1
    obtain ⟨p', us, o3, _, _, o4, _⟩ := s.ow i ds o1
    rw [o2] at o3; cases o3
    exact en.rt v H' (.fr xs) s'.e0 ⟨p, vs, ev, o4, h2, h3.fit fun a z => z.elim av_nil fun z => by rw [z]; exact .inr (.inr h1)⟩ q
  | bag => exact (q : False).elim
def wRetN : WS := fun _ O => O.rt (.d .none)
theorem s_retN : SimS X ec (.Return none pos) wRetN := ⟨fun G σ H ρ O D hK s t en h => psu ps_retN (en.rt .non H (.d .none) s.e0 Rp.non h)⟩
def wIfS (wt : WT) (w u : WS) : WS := fun ρ O => wt ρ (fun b => if b = true then w ρ O else u ρ O) (fun c => O.ex c ρ)
theorem s_if (hc : SimT X ec c wt) (h1 : SimSs X ec s1 w) (h2 : SimSs X ec s2 u) : SimS X ec (.If c s1 s2 pos) (wIfS wt w u) := by
  refine ⟨fun G σ H ρ O D hK s t en h => psu (ps_if ptU pssU pssU) ?_⟩
  refine (hc.run G σ H ρ _ _ hK s (t.tk s) h).mono fun b H' ⟨e, q⟩ => ?_
  cases b with
  | true => exact h1.run G σ H' ρ O D hK (s.ext e) (t.go (Go.ext e)) (en.go (Go.ext e)) q
  | false => exact h2.run G σ H' ρ O D hK (s.ext e) (t.go (Go.ext e)) (en.go (Go.ext e)) q
/-! ### stores -/
def W.clnK (z : W) (k : D → Prop) : Prop := match z.cln with
  | some y => k y
  | none => False
def W.frK (z : W) (k : List D → Prop) : Prop := match z with
  | .fr xs => k xs
  | _ => False
def wAsg (i : Nat) (wa : WE) : WS := fun ρ O => wa ρ (fun z => z.clnK fun d => O.nx (ρ.set i (some (.im d)))) (fun c => O.ex c ρ)
/-- the slot owns the new list -/
def wOwn (i : Nat) (wa : WE) : WS := fun ρ O => wa ρ (fun z => z.frK fun xs => O.nx (ρ.set i (some (.ow xs)))) (fun c => O.ex c ρ)
theorem Go.set {G : Gh} {ρ : Rho} {σ : St} {H : Hp} {i : Nat} {v : V} {d : R.D} : Go G ρ σ H (ρ.set i (some (.im d))) (σ.set i (some v)) H := fun _ _ r => r.fit fun a => av_set (fun ds z => by cases z)
theorem Go.own {G : Gh} {ρ : Rho} {σ : St} {Hs H : Hp} {i : Nat} {p : Addr} {ds : List R.D} (x : Ext G Hs H) (hn : No Hs p) : Go G ρ σ Hs (ρ.set i (some (.ow ds))) (σ.set i (some (.ref p))) H :=
  fun v d r => Rp.mono (fun a z => (av_own z).imp id fun e => by rw [e]; exact hn) (fun a u n t e => x.keep a u (fun z => n (.inr (.inl z.b))) t e) d v r
/-- what a store of a value does, whatever the form of the statement -/
theorem asg_go {i : Nat} {G : Gh} {σ : St} {H H' : Hp} {ρ : Rho} {O : Out} {D : Ends} (s : Sta G σ H ρ) (en : EndsOk G ρ σ H O D) {v : V} {x : W} (e : Ext G H H') (r : WR G ρ σ H H' v x)
    (q : x.clnK fun d => O.nx (ρ.set i (some (.im d)))) : D.nx (σ.set i (some v)) H' := by
  unfold W.clnK at q
  split at q
  · rename_i d ed
    exact en.nx _ H' _ ((s.ext e).set (r.cln s ed)) ((Go.ext e).trans Go.set) q
  · exact q.elim
theorem own_go {i : Nat} {G : Gh} {σ : St} {H H' : Hp} {ρ : Rho} {O : Out} {D : Ends} (s : Sta G σ H ρ) (en : EndsOk G ρ σ H O D) {v : V} {x : W} (e : Ext G H H') (r : WR G ρ σ H H' v x)
    (q : x.frK fun xs => O.nx (ρ.set i (some (.ow xs)))) : D.nx (σ.set i (some v)) H' := by
  cases x with
  | fr xs =>
    obtain ⟨p, vs, ev, h1, h2, h3⟩ := r
    subst ev
    exact en.nx _ H' _ (s.own e h1 h2 h3) (Go.own e h1) q
  | _ => exact (q : False).elim
theorem s_asg {i : Nat} {x : Str} {p' : Pos} (hN : X.N.Nodup) (hi : X.N[i]? = some x) (hx : Loc X.env.scope x) (ha : SimE X ec a wa) (hs : swapsWith a (some (.Name x p')) pos.line X.env = pure false := by rfl)
    (hf : X.fn x = true ∨ X.env.scope.names.lookup x = some .local := by first | exact .inl rfl | exact .inr rfl) : SimS X ec (.Assign [.Name x p'] a pos) (wAsg i wa) :=
  ⟨fun G σ H ρ O D hK s t en h => psu (ps_set hN hi hx peU hs hf) ((ha.at hK s t h).mono fun v H' ⟨x, e, r, q⟩ => asg_go s en e r q)⟩
theorem s_own {i : Nat} {x : Str} {p' : Pos} (hN : X.N.Nodup) (hi : X.N[i]? = some x) (hx : Loc X.env.scope x) (ha : SimE X ec a wa) (hs : swapsWith a (some (.Name x p')) pos.line X.env = pure false := by rfl)
    (hf : X.fn x = true ∨ X.env.scope.names.lookup x = some .local := by first | exact .inl rfl | exact .inr rfl) : SimS X ec (.Assign [.Name x p'] a pos) (wOwn i wa) :=
  ⟨fun G σ H ρ O D hK s t en h => psu (ps_set hN hi hx peU hs hf) ((ha.at hK s t h).mono fun v H' ⟨x, e, r, q⟩ => own_go s en e r q)⟩
/-- x += e, ints -/
def wAug (i : Nat) (f : Int → Int → Int) (wa : WE) : WS := fun ρ O => match ρ[i]? with
  | some (some (.im (.int n))) => wa ρ (fun z => match z with
    | .d (.int m) => O.nx (ρ.set i (some (.im (.int (f n m)))))
    | _ => False) (fun c => O.ex c ρ)
  | _ => False
theorem s_aug {i : Nat} {x : Str} {op : Operator} {f : Int → Int → Int} {p' : Pos} (hp : PIp X op (ipI f)) (hN : X.N.Nodup) (hi : X.N[i]? = some x) (hx : Loc X.env.scope x) (ha : SimE X ec a wa)
    (hf : X.fn x = true ∨ X.env.scope.names.lookup x = some .local := by first | exact .inl rfl | exact .inr rfl) : SimS X ec (.AugAssign (.Name x p') op a pos) (wAug i f wa) := by
  refine ⟨fun G σ H ρ O D hK s t en h => psu (ps_aug hN hi hx peU hp hf) ?_⟩
  unfold wAug at h
  split at h
  · rename_i n e0
    obtain ⟨v, h1, h2⟩ := s.im i _ e0
    cases h2
    refine ⟨_, h1, (ha.at hK s t h).mono fun v H' ⟨x, e, r, q⟩ => ?_⟩
    split at q
    · rename_i m
      cases r
      exact ⟨n, m, rfl, rfl, en.nx _ H' _ ((s.ext e).set (Rp.int _)) ((Go.ext e).trans Go.set) q⟩
    · exact q.elim
  · exact h.elim
/-- a, b = x, y (plain locals) -/
def wPar (i j : Nat) (ws : WA) : WS := fun ρ O => ws ρ (fun xs => match xs with
  | [x, y] => (match x.cln, y.cln with
    | some d, some e => O.nx ((ρ.set i (some (.im d))).set j (some (.im e)))
    | _, _ => False)
  | _ => False) (fun c => O.ex c ρ)
theorem SimA.at {es : List Expr} (h : SimA X ec es ws) {G : Gh} {σ : St} {H : Hp} {ρ : Rho} {O : Out} (hK : G.K = X.K) (s : Sta G σ H ρ) (t : TkS X ec G ρ σ H O.ex) {Q : List W → Prop} (q : ws ρ Q (fun c => O.ex c ρ)) :
    tUA X es σ H fun vs H' => ∃ xs, WRt G ρ σ H H' vs xs ∧ Q xs := h.run G σ H ρ Q _ hK s (t.tk s) q
theorem s_par {i j : Nat} {x y : Str} {px py pt : Pos} {kt k2 pt2} (hc : X.calm = true) (hN : X.N.Nodup) (hi : X.N[i]? = some x) (hj : X.N[j]? = some y) (hij : i ≠ j) (hx : X.env.scope.names.lookup x = some .local) (hy : X.env.scope.names.lookup y = some .local) (ha : SimA X ec [a, b] ws)
    (hw : swappedStores [.Tuple [.Name x px, .Name y py] kt pt] (.Tuple [a, b] k2 pt2) X.env = pure (some [x, y])) (hs : swapsWithSole [.Tuple [.Name x px, .Name y py] kt pt] (.Tuple [a, b] k2 pt2) pos.line X.env = pure false := by rfl) :
    SimS X ec (.Assign [.Tuple [.Name x px, .Name y py] kt pt] (.Tuple [a, b] k2 pt2) pos) (wPar i j ws) := by
  refine ⟨fun G σ H ρ O D hK s t en h => psu (ps_par hc hN hi hj hij hx hy paU hw hs) ((ha.at hK s t h).mono fun vs H' ⟨xs, rt, q⟩ => ?_)⟩
  split at q
  · rename_i z w
    have r := rt.wrs s
    obtain ⟨v, u, ev, r1, r2⟩ := r.two
    split at q
    · rename_i d e e1 e2
      have x := rt.ext
      refine ⟨v, u, ev, en.nx _ H' _ (((s.ext x).set (r1.cln s e1)).set (Go.set _ _ (r2.cln s e2))) ((Go.ext x).trans (Go.set.trans Go.set)) q⟩
    · exact q.elim
  · exact q.elim
/-- the same where the first owns its new list, the second is plain -/
def wParO (i j : Nat) (ws : WA) : WS := fun ρ O => ws ρ (fun xs => match xs with
  | [.fr ds, .d e] => plainD e = true ∧ O.nx ((ρ.set i (some (.ow ds))).set j (some (.im e)))
  | _ => False) (fun c => O.ex c ρ)
theorem s_parO {i j : Nat} {x y : Str} {px py pt : Pos} {kt k2 pt2} (hc : X.calm = true) (hN : X.N.Nodup) (hi : X.N[i]? = some x) (hj : X.N[j]? = some y) (hij : i ≠ j) (hx : X.env.scope.names.lookup x = some .local) (hy : X.env.scope.names.lookup y = some .local) (ha : SimA X ec [a, b] ws)
    (hw : swappedStores [.Tuple [.Name x px, .Name y py] kt pt] (.Tuple [a, b] k2 pt2) X.env = pure (some [x, y])) (hs : swapsWithSole [.Tuple [.Name x px, .Name y py] kt pt] (.Tuple [a, b] k2 pt2) pos.line X.env = pure false := by rfl) :
    SimS X ec (.Assign [.Tuple [.Name x px, .Name y py] kt pt] (.Tuple [a, b] k2 pt2) pos) (wParO i j ws) := by
  refine ⟨fun G σ H ρ O D hK s t en h => psu (ps_par hc hN hi hj hij hx hy paU hw hs) ((ha.at hK s t h).mono fun vs H' ⟨xs, rt, q⟩ => ?_)⟩
  split at q
  · rename_i ds e
    obtain ⟨q1, q⟩ := q
    have r := rt.wrs s
    obtain ⟨v, u, ev, r1, r2⟩ := r.two
    have x := rt.ext
    obtain ⟨p, us, ep, h1, h2, h3⟩ := r1
    subst ep
    have s1 := s.own (i := i) x h1 h2 h3
    have r2' : Rp G.K (G.av (ρ.set i (some (.ow ds))) (σ.set i (some (.ref p)))) H' u e := Rp.plain (fun a z => (av_own z).imp id fun e => by rw [e]; exact ⟨us, h2⟩) e u q1 r2
    exact ⟨_, u, ev, en.nx _ H' _ (s1.set r2') ((Go.own x h1).trans Go.set) q⟩
  · exact q.elim
/-! ### own lists by their methods -/
def owK (ρ : Rho) (i : Nat) (k : List D → Prop) : Prop := match ρ[i]? with
  | some (some (.ow ds)) => k ds
  | _ => False
theorem owK_get {ρ : Rho} {i : Nat} {k : List D → Prop} (h : owK ρ i k) : ∃ ds, ρ[i]? = some (some (.ow ds)) ∧ k ds := by
  unfold owK at h
  split at h
  · exact ⟨_, by assumption, h⟩
  · exact h.elim
def wApp (i : Nat) (wa : WE) : WS := fun ρ O => owK ρ i fun ds => wa ρ (fun z => z.clnK fun d => ds.length < big ∧ O.nx (ρ.set i (some (.ow (ds ++ [d]))))) (fun c => O.ex c ρ)
theorem Go.put {G : Gh} {ρ : Rho} {σ : St} {H : Hp} {i : Nat} {p : Addr} {ds es : List R.D} {us : List V} (e : ρ[i]? = some (some (.ow ds))) (hσ : σ[i]? = some (some (.ref p))) : Go G ρ σ H (ρ.set i (some (.ow es))) σ (upd H p (.lst us)) := by
  refine fun v d r => Rp.mono (fun a z => .inl ?_) (fun a u n _ q => ?_) d v r
  · rcases z with z | z | ⟨j, fs, z1, z2⟩
    · exact .inl z
    · exact .inr (.inl z)
    · by_cases hj : j = i
      · subst hj; exact .inr (.inr ⟨j, ds, e, z2⟩)
      · rw [List.getElem?_set_ne (Ne.symm hj)] at z1
        exact .inr (.inr ⟨j, fs, z1, z2⟩)
  · have na : a ≠ p := fun z => n (by rw [z]; exact .inr (.inr ⟨i, ds, e, hσ⟩))
    rw [upd_ne na]; exact q
theorem s_app {i : Nat} {cl : Expr} (pb : ∀ {ta : TE}, PE X a ta → PE X cl (tBM X.K "list" rAppend (tVar i) (tCons ta tNil))) (ha : SimE X ec a wa) (hs : swapsWith cl none pos.line X.env = pure false := by rfl) : SimS X ec (.Expr cl pos) (wApp i wa) := by
  refine ⟨fun G σ H ρ O D hK s t en h => psu (ps_expr (pb peU) hs) ?_⟩
  obtain ⟨ds, e0, h⟩ := owK_get h
  obtain ⟨p, vs, h1, h2, h3, h4, h5, h6⟩ := s.ow i ds e0
  refine ⟨.ref p, h1, .inl ⟨rfl, vs, SqL.of h2⟩, (ha.at hK s t h).mono fun v H' ⟨x, e, r, q⟩ => ?_⟩
  unfold W.clnK at q
  split at q
  · rename_i d ed
    have s' := s.ext e
    obtain ⟨p', vs', k1, k2, k3, _⟩ := s'.ow i ds e0
    rw [h1] at k1; cases k1
    have rd := r.cln s ed
    have r' : Rps G.K (G.av ρ σ) H' (vs' ++ [v]) (ds ++ [d]) := k3.append (.cons rd .nil)
    exact ⟨p, vs', v, rfl, rfl, k2, by rw [k3.length]; exact big_lt q.1, en.nx _ _ _ (s'.put e0 h1 r') ((Go.ext e).trans (Go.put e0 h1)) q.2⟩
  · exact q.elim
/-- xs.extend(ys) -/
def W.lstK (z : W) (k : List D → Prop) : Prop := match z.dat with
  | some (.list ds) => k ds
  | _ => False
theorem W.lstK_get {z : W} {k : List D → Prop} (h : z.lstK k) : ∃ ds, z.dat = some (.list ds) ∧ k ds := by
  unfold W.lstK at h
  split at h
  · exact ⟨_, by assumption, h⟩
  · exact h.elim
def wExtend (i : Nat) (wa : WE) : WS := fun ρ O => owK ρ i fun ds => wa ρ (fun z => z.lstK fun es => ds.length + es.length ≤ big ∧ O.nx (ρ.set i (some (.ow (ds ++ es))))) (fun c => O.ex c ρ)
theorem s_extend {i : Nat} {cl : Expr} (pb : ∀ {ta : TE}, PE X a ta → PE X cl (tBM X.K "list" rExtend (tVar i) (tCons ta tNil))) (ha : SimE X ec a wa) (hs : swapsWith cl none pos.line X.env = pure false := by rfl) : SimS X ec (.Expr cl pos) (wExtend i wa) := by
  refine ⟨fun G σ H ρ O D hK s t en h => psu (ps_expr (pb peU) hs) ?_⟩
  obtain ⟨ds, e0, h⟩ := owK_get h
  obtain ⟨p, vs, h1, h2, h3, h4, h5, h6⟩ := s.ow i ds e0
  refine ⟨.ref p, h1, .inl ⟨rfl, vs, SqL.of h2⟩, (ha.at hK s t h).mono fun v H' ⟨x, e, r, q⟩ => ?_⟩
  obtain ⟨es, ed, q⟩ := W.lstK_get q
  have s' := s.ext e
  obtain ⟨p', vs', k1, k2, k3, _⟩ := s'.ow i ds e0
  rw [h1] at k1; cases k1
  obtain ⟨b, us, rfl, hb, rb⟩ := r.lst ed
  have r' : Rps G.K (G.av ρ σ) H' (vs' ++ us) (ds ++ es) := k3.append rb
  exact ⟨p, b, vs', us, rfl, rfl, k2, hb, by rw [k3.length, rb.length]; exact big_le q.1, en.nx _ _ _ (s'.put e0 h1 r') ((Go.ext e).trans (Go.put e0 h1)) q.2⟩
/-- x[k] = e, x slot i's own list -/
def wSet (i : Nat) (we wk : WE) : WS := fun ρ O => we ρ (fun z => z.clnK fun d => owK ρ i fun ds => wk ρ (fun y => match y with
  | .d (.int k) => (match ixN ds.length k with
    | some j => O.nx (ρ.set i (some (.ow (ds.set j d))))
    | none => False)
  | _ => False) (fun c => O.ex c ρ)) (fun c => O.ex c ρ)
theorem s_set {i : Nat} {x : Str} {p' p2 : Pos} {wk we : WE} {k e : Expr} (hN : X.N[i]? = some x) (hv : Vis X.env.scope x) (hk : SimE X ec k wk) (he : SimE X ec e we) (hd : (x == ("__debug__" : Str)) = false := by decide) (hcd : (x == ("__classdict__" : Str)) = false := by decide)
    (pa : ∀ {te : TE} {tg : TG}, PE X e te → PG X (.Subscript (.Name x p') k p2) tg → PS X (.Assign [.Subscript (.Name x p') k p2] e pos) (tAsg te tg)) (pg : ∀ {to ti : TE} {t : TSet}, PE X (.Name x p') to → PE X k ti → PSet X t → PG X (.Subscript (.Name x p') k p2) (gSub to ti t)) :
    SimS X ec (.Assign [.Subscript (.Name x p') k p2] e pos) (wSet i we wk) := by
  refine ⟨fun G σ H ρ O D hK s t en h => psu (pa peU (pg (pe_var hN hv hd hcd) peU set_list)) ?_⟩
  refine (he.at hK s t h).mono fun v H1 ⟨z, e1, r1, q⟩ => ?_
  unfold W.clnK at q
  split at q
  · rename_i d ed
    obtain ⟨ds, e0, q⟩ := owK_get q
    obtain ⟨p, vs, h1, h2, h3, h4, h5, h6⟩ := s.ow i ds e0
    refine ⟨.ref p, h1, (hk.at hK (s.ext e1) (t.go (Go.ext e1)) q).mono fun u H2 ⟨y, e2, r2, q⟩ => ?_⟩
    have s' := (s.ext e1).ext e2
    split at q
    · rename_i k0
      cases r2
      split at q
      · rename_i j ej
        obtain ⟨p', vs', k1, k2, k3, _⟩ := s'.ow i ds e0
        rw [h1] at k1; cases k1
        have rd := (r1.cln s ed).ext e2
        refine ⟨p, vs', k0, j, rfl, rfl, k2, by rw [k3.length]; exact ej, en.nx _ _ _ (s'.put e0 h1 (k3.set rd j)) ((Go.ext (e1.trans e2)).trans (Go.put e0 h1)) q⟩
      · exact q.elim
    · exact q.elim
  · exact q.elim
/-! ### raise -/
/-- X(), X an own exception class without an own __init__ -/
theorem pmk0 {C : Addr} {bmB : List Value} {B newId initId : String} {x : Str} {p : Pos} (F : ExcBaseFacts B newId initId bmB) (q : PySem.W.excIn X.K C bmB newId = true) (gC : X.mg x = some (.ref C)) (kC : PySem.W.keepIn X.K (.ref C) = true) (r : Raises X (.ref C)) (hg : Gl X x)
    (hdb : (x == ("__debug__" : Str)) = false := by decide) : PMk X (.Call (.Name x p) [] [] pos) (fun _ H Q => Q (.ref C) none H) := by
  intro pins s σ H Q I h
  refine wpAny_Call_Name_kw (ld_glob I hg gC ?_ hdb)
  refine PySem.W.callWith_K0 I.kIn kC ?_
  obtain ⟨bm, N, nm, qn, bs, hdct, sn, sub, ab, col, dd, k0, k1, k2, k3, k5, mN, hC, hN, hni, T⟩ := exc_obj I.kIn q
  exact wpAny_call_exc_subT F T hC hN hni (fun h' e hm => mk_of I hm r h (I.hok.gone hm.new)) (Nat.zero_le _)
def wRaise (x : Str) : WS := fun ρ O => O.ex x ρ
theorem s_raise {x : Str} {p p2 : Pos} (hc : X.calm = true) (hg : Gl X x) (gC : X.mg x = some (.ref (ec x))) (hf : PySem.W.excIn X.K (ec x) He.veBase "ValueError.__new__" = true ∧ PySem.W.keepIn X.K (.ref (ec x)) = true ∧ PySem.W.subIn X.K (.ref (ec x)) (.type "BaseException") = some true ∧ PySem.W.typeIn X.K (.ref (ec x)) = some (.type "type"))
    (hdb : (x == ("__debug__" : Str)) = false := by decide) : SimS X ec (.Raise (some (.Call (.Name x p) [] [] p2)) none pos) (wRaise x) := by
  refine ⟨fun G σ H ρ O D hK s t en h => psu (ps_raise hc (W := fun cls d σ' H' => ∃ c ρ', cls = .ref (ec c) ∧ d = none ∧ Sta G σ' H' ρ' ∧ Go G ρ σ H ρ' σ' H' ∧ O.ex c ρ') t (pmk0 PySem.F.excBase_ValueError hf.1 gC hf.2.1 (raises_own hf.2.2.1 hf.2.2.2) hg hdb)) ?_⟩
  exact ⟨x, ρ, rfl, rfl, s, Go.refl, h⟩
end
end R
namespace R
open PySem PySem.Spec PyProof.Rows L2
set_option autoImplicit false
/-! ### 9. targets -/
inductive Pt where
  | nm (i : Nat) | tp (is : List Nat)
def setAll : List Nat → List D → Rho → Rho
  | i :: is, d :: ds, ρ => setAll is ds (ρ.set i (some (.im d)))
  | _, _, ρ => ρ
def Pt.bind : Pt → D → Rho → (Rho → Prop) → Prop
  | .nm i, d, ρ, k => k (ρ.set i (some (.im d)))
  | .tp is, .tuple ds, ρ, k => ds.length = is.length ∧ k (setAll is ds ρ)
  | .tp _, _, _, _ => False
def gAll : List Nat → TGs
  | [] => gNil
  | i :: is => gCons (gName i) (gAll is)
def Pt.g (K : PySem.W.Frag) : Pt → TG
  | .nm i => gName i
  | .tp is => gTup K is.length (gAll is)
def Pt.slots : Pt → List Nat
  | .nm i => [i]
  | .tp is => is
section
variable {G : Gh} {σ : St} {H : Hp} {ρ : Rho}
theorem all_go : ∀ (is : List Nat) (ds : List D) (vs : List V) (σ : St) (ρ : Rho) (Q : St → Hp → Prop), Sta G σ H ρ → Rps G.K (G.av ρ σ) H vs ds → ds.length = is.length →
    (∀ σ', Sta G σ' H (setAll is ds ρ) → Go G ρ σ H (setAll is ds ρ) σ' H → (σ'.length = σ.length ∧ ∀ j, j ∉ is → σ'[j]? = σ[j]? ∧ (setAll is ds ρ)[j]? = ρ[j]?) → Q σ' H) → gAll is vs σ H Q
  | [], ds, vs, σ, ρ, Q, s, r, hl, k => by
    cases ds with
    | nil => cases r; exact ⟨rfl, k σ s Go.refl ⟨rfl, fun _ _ => ⟨rfl, rfl⟩⟩⟩
    | cons _ _ => simp at hl
  | i :: is, ds, vs, σ, ρ, Q, s, r, hl, k => by
    cases ds with
    | nil => simp at hl
    | cons d ds =>
      cases r with
      | cons r1 r2 =>
        rename_i v vs
        refine ⟨v, vs, rfl, ?_⟩
        refine all_go is ds vs _ _ _ (s.set (i := i) r1) (r2.fit fun a => av_set fun ds z => by cases z) (by simpa using hl) fun σ' s' g nj => ?_
        exact k σ' s' (Go.set.trans g) ⟨nj.1.trans (List.length_set ..), fun j hj => by
          have ni : i ≠ j := fun z => hj (by rw [← z]; exact List.mem_cons_self)
          obtain ⟨n1, n2⟩ := nj.2 j (fun z => hj (List.mem_cons_of_mem _ z))
          rw [List.getElem?_set_ne ni] at n1 n2
          exact ⟨n1, n2⟩⟩
theorem bind_go {pt : Pt} {v : V} {d : D} {N : Rho → Prop} {Q : St → Hp → Prop} {K : PySem.W.Frag} (hK : G.K = K) (s : Sta G σ H ρ) (r : Rp G.K (G.av ρ σ) H v d) (h : pt.bind d ρ N)
    (k : ∀ σ' ρ', Sta G σ' H ρ' → Go G ρ σ H ρ' σ' H → (σ'.length = σ.length ∧ ∀ j, j ∉ pt.slots → σ'[j]? = σ[j]? ∧ ρ'[j]? = ρ[j]?) → N ρ' → Q σ' H) : pt.g K v σ H Q := by
  cases pt with
  | nm i => exact k _ _ (s.set r) Go.set ⟨List.length_set .., fun j hj => have ni : i ≠ j := fun z => hj (by rw [← z]; exact List.mem_singleton.mpr rfl); ⟨List.getElem?_set_ne ni, List.getElem?_set_ne ni⟩⟩ h
  | tp is =>
    cases d with
    | tuple ds =>
      obtain ⟨hl, h⟩ := h
      cases r with
      | tup h1 r =>
        rename_i a xs
        have hs : SqT K H a xs := by
          rcases h1 with ⟨_, rd⟩ | q
          · exact SqT.of rd
          · exact .inr (hK ▸ q)
        refine ⟨a, xs, rfl, hs, by rw [r.length]; exact hl, ?_⟩
        exact all_go is ds xs σ ρ Q s r hl fun σ' s' g nj => k σ' _ s' g nj h
    | _ => exact (h : False).elim
end
/-! ### 10. what is walked -/
structure Walks (K : PySem.W.Frag) (J : It) (P : (Addr → Prop) → Hp → Prop) (ds : List D) : Prop where
  keep : ∀ Av H Av' H', P Av H → (∀ (v : V) (d : D), Rp K Av H v d → Rp K Av' H' v d) → P Av' H'
  item : ∀ (i : Nat) Av H, (∀ a, Av a → ¬ No H a) → P Av H → i < ds.length → J.go i H ∧ ∀ x H', J.yld i H x H' → (∀ a u, H a = some u → H' a = some u) ∧ ∃ d, ds[i]? = some d ∧ Rp K Av H' x d
  stop : ∀ Av H, P Av H → J.stop ds.length H
theorem Ext.all {G : Gh} {H H' : Hp} (k : ∀ a u, H a = some u → H' a = some u) : Ext G H H' :=
  ⟨fun a u _ _ e => k a u e, fun p c e ⟨n, ns, i, j, k1, l, b1, b2, b3⟩ => ⟨n, ns, i, j, k1, l, k _ _ b1, k _ _ b2, b3⟩, fun t => t.ext k⟩
def tUI (X : Cx) (tg iter : Expr) : TI := fun σ H R => ∀ (pins : List (Addr × Obj)) (s : Shared), Inv X pins σ H s → wpAny (model X.prog X.w) X.A (eval iter X.env) (fun v s1 => wpAny (model X.prog X.w) X.A (pyIter v) (PIE X pins σ tg R) X.xe s1) X.xe s
theorem piU {X : Cx} {tg iter : Expr} : PI X tg iter (tUI X tg iter) := ⟨fun pins s σ H R I h => h pins s I⟩
theorem piu {X : Cx} {tg iter : Expr} {wi : TI} {σ : St} {H : Hp} {R : It → Hp → Prop} (h : PI X tg iter wi) (q : wi σ H R) : tUI X tg iter σ H R := fun pins s I => h.run pins s σ H R I q
abbrev WI := Rho → (List D → Prop) → (Str → Prop) → Prop
structure SimI (X : Cx) (ec : Str → Addr) (tg iter : Expr) (w : WI) : Prop where
  run : ∀ (G : Gh) (σ : St) (H : Hp) (ρ : Rho) (Q : List D → Prop) (E : Str → Prop), G.K = X.K → Sta G σ H ρ → Tk X ec G σ H E → w ρ Q E →
    tUI X tg iter σ H fun J H1 => ∃ ds P, Ext G H H1 ∧ Walks X.K J P ds ∧ P (G.av ρ σ) H1 ∧ Q ds
section
variable {X : Cx} {ec : Str → Addr} {tg a b e : Expr} {es : List Expr} {wa : WE} {ws : WA} {pos : Pos}
def wiSeq (wa : WE) : WI := fun ρ Q E => wa ρ (fun z => match z.cln.bind seqD with
  | some ds => Q ds
  | none => False) E
theorem walk_list {K : PySem.W.Frag} {a : Addr} {ds : List D} : Walks K (Itl K a) (fun Av H => Rp K Av H (.ref a) (.list ds)) ds where
  keep := fun _ _ _ _ p g => g _ _ p
  item := fun i Av H hd p hi => by
    cases p with
    | lst na h1 r =>
      rename_i xs
      have hx : xs[i]? = some (xs[i]'(by rw [r.length]; exact hi)) := by simp [r.length, hi]
      refine ⟨⟨xs, _, SqL.of h1, hx⟩, fun x H' y => ?_⟩
      obtain ⟨e, y⟩ := y
      subst e
      obtain ⟨d, e1, e2⟩ := r.getV (y xs (SqL.of h1))
      exact ⟨fun _ _ e => e, d, e1, e2⟩
  stop := fun Av H p => by
    cases p with
    | lst na h1 r =>
      rename_i xs
      exact ⟨xs, SqL.of h1, by rw [r.length]; exact Nat.le_refl _⟩
theorem walk_tup {K : PySem.W.Frag} {a : Addr} {ds : List D} : Walks K (Itt K a) (fun Av H => Rp K Av H (.ref a) (.tuple ds)) ds where
  keep := fun _ _ _ _ p g => g _ _ p
  item := fun i Av H hd p hi => by
    cases p with
    | tup h1 r =>
      rename_i xs
      have hs : SqT K H a xs := by
        rcases h1 with ⟨_, rd⟩ | q
        · exact SqT.of rd
        · exact .inr q
      have hx : xs[i]? = some (xs[i]'(by rw [r.length]; exact hi)) := by simp [r.length, hi]
      refine ⟨⟨xs, _, hs, hx⟩, fun x H' y => ?_⟩
      obtain ⟨e, y⟩ := y
      subst e
      obtain ⟨d, e1, e2⟩ := r.getV (y xs hs)
      exact ⟨fun _ _ e => e, d, e1, e2⟩
  stop := fun Av H p => by
    cases p with
    | tup h1 r =>
      rename_i xs
      have hs : SqT K H a xs := by
        rcases h1 with ⟨_, rd⟩ | q
        · exact SqT.of rd
        · exact .inr q
      exact ⟨xs, hs, by rw [r.length]; exact Nat.le_refl _⟩
/-- a list or a tuple at once -/
theorem PI.or {wi wi' : TI} (h : PI X tg a wi) (h' : PI X tg a wi') : PI X tg a (fun σ H R => wi σ H R ∨ wi' σ H R) := ⟨fun pins s σ H R I q => q.elim (h.run pins s σ H R I) (h'.run pins s σ H R I)⟩
def iSeq (K : PySem.W.Frag) (tl : TE) : TI := fun σ H R => tl σ H fun x H1 => ∃ a, x = .ref a ∧ (((∃ xs, SqL K H1 a xs) ∧ R (Itl K a) H1) ∨ ((∃ xs, SqT K H1 a xs) ∧ R (Itt K a) H1))
theorem pi_seq {tl : TE} (hl : PE X a tl) : PI X tg a (iSeq X.K tl) := by
  refine ⟨fun pins s σ H R I h => ?_⟩
  refine thn (hl.run pins s σ H _ I h) fun v s1 ⟨x, H1, I1, r1, q1⟩ => ?_
  obtain ⟨p, e, q⟩ := q1
  subst e
  cases r1
  rcases q with ⟨⟨xs, hq⟩, q⟩ | ⟨⟨xs, hq⟩, q⟩
  · obtain ⟨its, rv, pl, hz⟩ := I1.list hq
    refine wpAny_pyIter_list pl.isList ⟨s1.heap.objs.size, [s1.heap.objs.size], _, _, H1, rfl, I1.kept (t' := s1.toks) fun b o e => Heap.get?_push_of_some _ e, turn_list p _, ⟨_, Heap.get?_push_size _ rfl, rfl, rfl⟩, fun b hb => ?_, q⟩
    obtain rfl : b = s1.heap.objs.size := by simpa using hb
    exact I1.fpOk (Nat.le_refl _) (I1.hok.fresh (Nat.le_refl _))
  · obtain ⟨its, rv, pl, hz⟩ := I1.tuple hq
    refine wpAny_pyIter_tuple (show s1.heap.IsTuple p its.toArray from pl) ⟨s1.heap.objs.size, [s1.heap.objs.size], _, _, H1, rfl, I1.kept (t' := s1.toks) fun b o e => Heap.get?_push_of_some _ e, turn_tuple p _, ⟨_, Heap.get?_push_size _ rfl, rfl, rfl⟩, fun b hb => ?_, q⟩
    obtain rfl : b = s1.heap.objs.size := by simpa using hb
    exact I1.fpOk (Nat.le_refl _) (I1.hok.fresh (Nat.le_refl _))
theorem si_seq (ha : SimE X ec a wa) : SimI X ec tg a (wiSeq wa) := by
  refine ⟨fun G σ H ρ Q E hK s t h => piu (pi_seq peU) ?_⟩
  refine (ha.run G σ H ρ _ E hK s t h).mono fun v H1 ⟨x, e, r, q⟩ => ?_
  split at q
  · rename_i ds ed
    cases hc : x.cln with
    | none => rw [hc] at ed; cases ed
    | some d =>
      rw [hc] at ed
      have rd := r.cln s hc
      cases d with
      | list es =>
        have ed : some es = some ds := ed
        cases ed
        cases rd with
        | lst na h1 rr => exact ⟨_, rfl, .inl ⟨⟨_, SqL.of h1⟩, ds, _, e, walk_list, hK ▸ .lst na h1 rr, q⟩⟩
      | tuple es =>
        have ed : some es = some ds := ed
        cases ed
        cases rd with
        | tup h1 rr =>
          rename_i pa xs _
          have hs : SqT X.K H1 pa xs := by
            rcases h1 with ⟨_, rd⟩ | q
            · exact SqT.of rd
            · exact .inr (hK ▸ q)
          exact ⟨_, rfl, .inr ⟨⟨_, hs⟩, ds, _, e, walk_tup, hK ▸ .tup h1 rr, q⟩⟩
      | _ => cases ed
  · exact q.elim
def rangeD (lo : Int) (n : Nat) : List D := (List.range n).map fun (i : Nat) => PyData.int (lo + (i : Int))
theorem walk_range {K : PySem.W.Frag} {lo : Int} {n : Nat} : Walks K (Itr lo n) (fun _ _ => True) (rangeD lo n) where
  keep := fun _ _ _ _ _ _ => trivial
  item := fun i Av H hd p hi => by
    have hi : i < n := by simpa [rangeD] using hi
    refine ⟨hi, fun x H' y => ?_⟩
    obtain ⟨e, y⟩ := y
    subst e y
    exact ⟨fun _ _ e => e, .int (lo + i), by simp [rangeD, hi], .int _⟩
  stop := fun Av H p => by
    show n ≤ (rangeD lo n).length
    simp [rangeD]
def wiR1 (ws : WA) : WI := fun ρ Q E => ws ρ (fun xs => match xs with
  | [.d (.int j)] => -(2 ^ 62) ≤ j ∧ j < 2 ^ 62 ∧ Q (rangeD 0 j.toNat)
  | _ => False) E
def wiR2 (ws : WA) : WI := fun ρ Q E => ws ρ (fun xs => match xs with
  | [.d (.int i), .d (.int j)] => (-(2 ^ 62) ≤ i ∧ i < 2 ^ 62 ∧ -(2 ^ 62) ≤ j ∧ j < 2 ^ 62) ∧ Q (rangeD i (j - i).toNat)
  | _ => False) E
theorem si_range1 {p : Pos} (hg : Gl X "range") (hm : X.mg "range" = none) (ha : SimA X ec [a] ws) (hs : starEach [a] X.env = [(false, eval a X.env)] := by rfl) : SimI X ec tg (.Call (.Name "range" p) [a] [] pos) (wiR1 ws) := by
  refine ⟨fun G σ H ρ Q E hK s t h => piu (pi_range1 hg hm paU hs) ?_⟩
  refine (ha.run G σ H ρ _ E hK s t h).mono fun vs H1 ⟨xs, rt, q⟩ => ?_
  split at q
  · rename_i j
    obtain ⟨v, rfl, r⟩ := (rt.wrs s).one
    cases r
    exact ⟨j, rfl, q.1, q.2.1, _, _, rt.ext, walk_range, trivial, q.2.2⟩
  · exact q.elim
theorem si_range2 {p : Pos} (hg : Gl X "range") (hm : X.mg "range" = none) (ha : SimA X ec [a, b] ws) (hs : starEach [a, b] X.env = [(false, eval a X.env), (false, eval b X.env)] := by rfl) (hs2 : starEach [b] X.env = [(false, eval b X.env)] := by rfl) :
    SimI X ec tg (.Call (.Name "range" p) [a, b] [] pos) (wiR2 ws) := by
  refine ⟨fun G σ H ρ Q E hK s t h => piu (pi_range2 hg hm paU hs hs2) ?_⟩
  refine (ha.run G σ H ρ _ E hK s t h).mono fun vs H1 ⟨xs, rt, q⟩ => ?_
  split at q
  · rename_i i j
    obtain ⟨v, u, rfl, r, r'⟩ := (rt.wrs s).two
    cases r
    cases r'
    exact ⟨i, j, rfl, q.1, _, _, rt.ext, walk_range, trivial, q.2⟩
  · exact q.elim
end
/-! ### 11. loops -/
section
variable {X : Cx} {ec : Str → Addr} {tg iter c elt : Expr} {body : List Stmt} {wi : WI} {wb : WS} {wt : WT} {we : WE} {pos : Pos}
def wFor (pt : Pt) (wi : WI) (wb : WS) : WS := fun ρ O => wi ρ (fun ds => ∃ I : Nat → Rho → Prop, I 0 ρ ∧
  (∀ (i : Nat) (d : D) (ρ' : Rho), ds[i]? = some d → I i ρ' → pt.bind d ρ' fun ρ2 => wb ρ2 { O with nx := I (i + 1), ct := I (i + 1), bk := O.nx }) ∧ ∀ ρ', I ds.length ρ' → O.nx ρ') (fun c => O.ex c ρ)
theorem s_for {pt : Pt} (hp : PassesOwn (model X.prog X.w) X.A X.env X.xe) (hc : X.calm = true) (hi : SimI X ec tg iter wi) (hg : PG X tg (pt.g X.K)) (hb : SimSs X ec body wb) (hs : ∀ x, foldedSetIterable iter X.env x = pure x := by intro _; rfl) :
    SimS X ec (.For tg iter body [] pos) (wFor pt wi wb) := by
  refine ⟨fun G σ H ρ O D hK s t en h => psu (ps_for hp hc piU hg pssU hs) ?_⟩
  refine fun pins sh I0 => thn (hi.run G σ H ρ _ _ hK s (t.tk s) h pins sh I0) fun v s1 h1 => thn h1 fun itv s2 h2 => ?_
  obtain ⟨it, fp, tn, J, H2, e0, I2, T, st2, f2, ds, P, e, wk, p0, Iv, i0, it1, it2⟩ := h2
  refine ⟨it, fp, tn, J, H2, e0, I2, T, st2, f2, ?_⟩
  refine ⟨fun i m σ' H' => ∃ ρ', m = ds.length - i ∧ i ≤ ds.length ∧ Sta G σ' H' ρ' ∧ Go G ρ σ H ρ' σ' H' ∧ P (G.av ρ' σ') H' ∧ Iv i ρ', ⟨ds.length, ρ, by simp, Nat.zero_le _, s.ext e, Go.ext e, p0, i0⟩, ?_⟩
  rintro i m σ1 H1 ⟨ρ1, rfl, hi1, s1', g1, p1, i1⟩
  by_cases hlt : i < ds.length
  · obtain ⟨j1, j2⟩ := wk.item i _ H1 (fun a => s1'.avdom) p1 hlt
    refine .inr ⟨j1, fun σ' H' => ∃ ρ', Sta G σ' H' ρ' ∧ Go G ρ σ H ρ' σ' H' ∧ P (G.av ρ' σ') H' ∧ Iv (i + 1) ρ', fun σ' H' ⟨ρ', q1, q2, q3, q4⟩ => ⟨ds.length - (i + 1), by omega, ρ', rfl, hlt, q1, q2, q3, q4⟩, fun x H' y => ?_⟩
    obtain ⟨e2', d, ed, rd⟩ := j2 x H' y
    have e2 : Ext G H1 H' := Ext.all e2'
    rw [← hK] at rd
    have s2' := s1'.ext e2
    refine bind_go hK s2' rd (it1 i d ρ1 ed i1) fun σ2 ρ2 s3 g3 _ n3 => ?_
    have g4 := g1.trans ((Go.ext e2).trans g3)
    have p3 : P (G.av ρ2 σ2) H' := wk.keep _ _ _ _ p1 (hK ▸ (Go.ext e2).trans g3)
    exact hb.run G σ2 H' ρ2 { O with nx := Iv (i + 1), ct := Iv (i + 1), bk := O.nx } _ hK s3 (t.go g4) ⟨fun a b c s g q => ⟨c, s, g4.trans g, wk.keep _ _ _ _ p3 (hK ▸ g), q⟩, en.rt, fun a b c s g q => en.nx a b c s (g4.trans g) q, fun a b c s g q => ⟨c, s, g4.trans g, wk.keep _ _ _ _ p3 (hK ▸ g), q⟩⟩ n3
  · have e1 : i = ds.length := by omega
    subst e1
    exact .inl ⟨wk.stop _ H1 p1, en.nx σ1 H1 ρ1 s1' g1 (it2 ρ1 i1)⟩
def wWhile (wt : WT) (wb : WS) : WS := fun ρ O => ∃ I : Nat → Rho → Prop, (∃ m, I m ρ) ∧ ∀ m ρ', I m ρ' →
  wt ρ' (fun b => if b = true then wb ρ' { O with nx := fun ρ2 => ∃ m', m' < m ∧ I m' ρ2, ct := fun ρ2 => ∃ m', m' < m ∧ I m' ρ2, bk := O.nx } else O.nx ρ') (fun c => O.ex c ρ')
theorem s_while (hp : PassesOwn (model X.prog X.w) X.A X.env X.xe) (hc : SimT X ec c wt) (hb : SimSs X ec body wb) : SimS X ec (.While c body [] pos) (wWhile wt wb) := by
  refine ⟨fun G σ H ρ O D hK s t en ⟨Iv, ⟨m0, i0⟩, turn⟩ => psu (ps_while hp ptU pssU) ?_⟩
  refine ⟨fun m σ' H' => ∃ ρ', Sta G σ' H' ρ' ∧ Go G ρ σ H ρ' σ' H' ∧ Iv m ρ', ⟨m0, ρ, s, Go.refl, i0⟩, ?_⟩
  rintro m σ1 H1 ⟨ρ1, s1, g1, i1⟩
  refine (hc.run G σ1 H1 ρ1 _ _ hK s1 ((t.go g1).tk s1) (turn m ρ1 i1)).mono fun b H2 ⟨e, q⟩ => ?_
  have s2 := s1.ext e
  have g2 := g1.trans (Go.ext e)
  cases b with
  | true =>
    refine ⟨fun σ' H' => ∃ m', m' < m ∧ ∃ ρ', Sta G σ' H' ρ' ∧ Go G ρ σ H ρ' σ' H' ∧ Iv m' ρ', fun σ' H' z => z, ?_⟩
    exact hb.run G σ1 H2 ρ1 { O with nx := fun ρ2 => ∃ m', m' < m ∧ Iv m' ρ2, ct := fun ρ2 => ∃ m', m' < m ∧ Iv m' ρ2, bk := O.nx } _ hK s2 (t.go g2) ⟨fun a b c s g ⟨m', l, q⟩ => ⟨m', l, c, s, g2.trans g, q⟩, en.rt, fun a b c s g q => en.nx a b c s (g2.trans g) q, fun a b c s g ⟨m', l, q⟩ => ⟨m', l, c, s, g2.trans g, q⟩⟩ q
  | false => exact en.nx σ1 H2 ρ1 s2 g2 q
end
end R
namespace R
open PySem PySem.Spec PyProof.Rows L2
set_option autoImplicit false
/-! ### 12. comprehensions -/
@[simp] def wipeR (ρ : Rho) : List Nat → Rho
  | [] => ρ
  | v :: vs => (wipeR ρ vs).set v none
@[simp] def noOw : List Nat → Rho → Prop
  | [], _ => True
  | v :: vs, ρ => (match ρ[v]? with
    | some (some (.ow _)) => False
    | _ => True) ∧ noOw vs ρ
theorem noOw_at {ρ : Rho} : ∀ {vs : List Nat}, noOw vs ρ → ∀ v ∈ vs, ∀ ds, ρ[v]? ≠ some (some (.ow ds))
  | v :: vs, h, u, hu, ds => by
    rcases List.mem_cons.mp hu with e | hu
    · intro z
      rw [e] at z
      have := h.1
      rw [z] at this
      exact this
    · exact noOw_at h.2 u hu ds
section
variable {G : Gh} {σ : St} {H H' : Hp} {ρ : Rho}
theorem Sta.wipe (s : Sta G σ H ρ) : ∀ vs : List Nat, Sta G (L2.wipe σ vs) H (wipeR ρ vs)
  | [] => s
  | v :: vs => (Sta.wipe s vs).wipe1 none
theorem wipe_out {α : Type} {σ : List (Option α)} {w : List (Option α) → List Nat → List (Option α)} (hw0 : ∀ σ, w σ [] = σ) (hw : ∀ σ v vs, w σ (v :: vs) = (w σ vs).set v none) {j : Nat} : ∀ {vs : List Nat}, j ∉ vs → (w σ vs)[j]? = σ[j]?
  | [], _ => by rw [hw0]
  | v :: vs, h => by
    rw [hw, List.getElem?_set_ne (fun z => h (by rw [← z]; exact List.mem_cons_self))]
    exact wipe_out hw0 hw fun z => h (List.mem_cons_of_mem _ z)
theorem wipe_o {σ : St} {j : Nat} {vs : List Nat} (h : j ∉ vs) : (L2.wipe σ vs)[j]? = σ[j]? := wipe_out (w := L2.wipe) (fun _ => rfl) (fun _ _ _ => rfl) h
theorem wipeR_o {ρ : Rho} {j : Nat} {vs : List Nat} (h : j ∉ vs) : (wipeR ρ vs)[j]? = ρ[j]? := wipe_out (w := wipeR) (fun _ => rfl) (fun _ _ _ => rfl) h
theorem wipe_in {σ : St} {j : Nat} : ∀ {vs : List Nat}, j ∈ vs → (L2.wipe σ vs)[j]? = if j < σ.length then some none else none
  | v :: vs, h => by
    show ((L2.wipe σ vs).set v none)[j]? = _
    by_cases e : v = j
    · subst e
      by_cases hl : v < σ.length
      · rw [if_pos hl, List.getElem?_set_self (by rw [wipe_length]; exact hl)]
      · rw [if_neg hl, List.getElem?_eq_none (by rw [List.length_set, wipe_length]; omega)]
    · rw [List.getElem?_set_ne e]
      rcases List.mem_cons.mp h with q | q
      · exact absurd q.symm e
      · exact wipe_in q
theorem wipe_same {σ σ2 : St} {vs : List Nat} (hl : σ2.length = σ.length) (h : ∀ j, j ∉ vs → σ2[j]? = (L2.wipe σ vs)[j]?) : L2.wipe σ2 vs = L2.wipe σ vs := by
  apply List.ext_getElem?
  intro j
  by_cases e : j ∈ vs
  · rw [wipe_in e, wipe_in e, hl]
  · rw [wipe_o e, h j e]
/-- one more address that data may not touch -/
def Gh.more (G : Gh) (p : Addr) : Gh := { G with S := fun a => G.S a ∨ a = p }
theorem more_av {p a : Addr} : (G.more p).av ρ σ a ↔ G.av ρ σ a ∨ a = p := by
  constructor
  · rintro ((h | h) | h | h)
    · exact .inl (.inl h)
    · exact .inr h
    · exact .inl (.inr (.inl h))
    · exact .inl (.inr (.inr h))
  · rintro ((h | h | h) | h)
    · exact .inl (.inl h)
    · exact .inr (.inl h)
    · exact .inr (.inr h)
    · exact .inl (.inr h)
theorem Ext.more {p : Addr} (x : Ext G H H') : Ext (G.more p) H H' := ⟨x.keep, x.bok, x.tok⟩
theorem Ext.less {p : Addr} (x : Ext (G.more p) H H') : Ext G H H' := ⟨x.keep, x.bok, x.tok⟩
theorem Sta.more (s : Sta G σ H ρ) (x : Ext G H H') {p : Addr} (hp : No H p) (hp' : ¬ No H' p) : Sta (G.more p) σ H' ρ := by
  have s' := s.ext x
  have up : ∀ {v : V} {d : D}, Rp G.K (G.av ρ σ) H v d → Rp G.K ((G.more p).av ρ σ) H' v d := fun {v d} r =>
    Rp.mono (fun a z => (more_av.mp z).imp id fun e => by rw [e]; exact hp) (fun a u n t e => x.keep a u (fun z => n (.inr (.inl z.b))) t e) d v r
  have ups : ∀ {v : List V} {d : List D}, Rps G.K (G.av ρ σ) H v d → Rps G.K ((G.more p).av ρ σ) H' v d := fun {v d} r =>
    Rps.mono (fun a z => (more_av.mp z).imp id fun e => by rw [e]; exact hp) (fun a u n t e => x.keep a u (fun z => n (.inr (.inl z.b))) t e) d v r
  refine ⟨s.len, fun i d e => ?_, fun i ds e => ?_, s.uq, s.bag, s'.keep, fun a ha => ?_, s'.bok, s'.tok⟩
  · obtain ⟨v, h1, h2⟩ := s.im i d e
    exact ⟨v, h1, up h2⟩
  · obtain ⟨q, vs, h1, h2, h3, h4, h5, h6⟩ := s.ow i ds e
    refine ⟨q, vs, h1, x.keep q _ (fun z => h6 z.b) noT_lst h2, ups h3, h4, ?_, h6⟩
    rintro (z | z)
    · exact h5 z
    · rw [z] at h2; exact hp.lst h2
  · rcases ha with z | z
    · exact s'.dom a z
    · rw [z]; exact hp'
end
section
variable {X : Cx} {ec : Str → Addr} {tg iter elt cnd : Expr} {ifs : List Expr} {scope : Scope} {own : List (Str × Nat)} {wi : WI} {wt : WT} {we : WE} {pos : Pos}
/-- a clause's tests -/
structure SimTs (X : Cx) (ec : Str → Addr) (ifs : List Expr) (w : WT) : Prop where
  run : ∀ (G : Gh) (σ : St) (H : Hp) (ρ : Rho) (Q : Bool → Prop) (E : Str → Prop), G.K = X.K → Sta G σ H ρ → Tk X ec G σ H E → w ρ Q E →
    ∀ (pins : List (Addr × Obj)) (s : Shared), Inv X pins σ H s → wpAny (model X.prog X.w) X.A (forIn ifs true fun c r => if r = true then do let ok ← isTrue c X.env (eval c X.env); pure (ForInStep.yield ok) else pure (ForInStep.yield r)) (TP X pins σ fun b H' => Ext G H H' ∧ Q b) X.xe s
def wtYes : WT := fun _ Q _ => Q true
theorem sts_nil : SimTs X ec [] wtYes := ⟨fun G σ H ρ Q E hK s t h pins sh I => pts_nil.run pins sh σ H _ I ⟨Ext.refl, h⟩⟩
theorem sts_one (hc : SimT X ec cnd wt) : SimTs X ec [cnd] wt := ⟨fun G σ H ρ Q E hK s t h pins sh I => (pts_one ptU).run pins sh σ H _ I (hc.run G σ H ρ Q E hK s t h)⟩
abbrev Cx.bk (X : Cx) (scope : Scope) (s : Shared) (H : Hp) (C : Addr) (cl : List (Str × Addr)) (fp : List Addr) : Cx := X.blk s H scope (compEnvC scope cl C X.env) fp
def wLcK (pt : Pt) (vs : List Nat) (wt : WT) (we : WE) (ρ : Rho) (Q : W → Prop) (ds : List D) : Prop := noOw vs ρ ∧ ∃ I : Nat → List D → Prop, I 0 [] ∧
  (∀ (i : Nat) (d : D) (acc : List D), ds[i]? = some d → I i acc → pt.bind d (wipeR ρ vs) fun ρ2 => wt ρ2 (fun b => if b = true then we ρ2 (fun z => z.clnK fun y => acc.length < big ∧ I (i + 1) (acc ++ [y])) (fun _ => False) else I (i + 1) acc) (fun _ => False)) ∧
  ∀ acc, I ds.length acc → Q (.fr acc)
def wLc (pt : Pt) (vs : List Nat) (wi : WI) (wt : WT) (we : WE) : WE := fun ρ Q E => wi ρ (wLcK pt vs wt we ρ Q) E
def teB (X : Cx) (scope : Scope) (e : Expr) : TE := fun σ H Q => ∀ s H0 C cl fp, tU (Cx.bk X scope s H0 C cl fp) e σ H Q
def ttB (X : Cx) (scope : Scope) (ifs : List Expr) : TT := fun σ H Q => ∀ (s : Shared) (H0 : Hp) (C : Addr) (cl : List (Str × Addr)) (fp : List Addr) (pins : List (Addr × Obj)) (sh : Shared), Inv (Cx.bk X scope s H0 C cl fp) pins σ H sh →
  wpAny (model X.prog X.w) X.A (forIn ifs true fun c r => if r = true then do let ok ← isTrue c (compEnvC scope cl C X.env) (eval c (compEnvC scope cl C X.env)); pure (ForInStep.yield ok) else pure (ForInStep.yield r)) (TP (Cx.bk X scope s H0 C cl fp) pins σ Q) (fun _ _ => False) sh
theorem tk0 {X : Cx} {G : Gh} {σ : St} {H : Hp} : Tk X ec G σ H (fun _ => False) := fun u s' x => by
  obtain ⟨_, _, _, _, _, _, _, _, _, _, _, _, _, _, _, _, c, _, _, _, _, z⟩ := x
  exact z.elim
/-- the reading of a comprehension, from its word -/
theorem lc_go {pt : Pt} {vs : List Nat} (hsl : ∀ j ∈ pt.slots, j ∈ vs) (ht : ∀ s H C cl fp, SimTs (Cx.bk X scope s H C cl fp) ec ifs wt) (he : ∀ s H C cl fp, SimE (Cx.bk X scope s H C cl fp) ec elt we)
    {G : Gh} {σ : St} {H : Hp} {ρ : Rho} {Q : W → Prop} {Q' : VK} (hK : G.K = X.K) (s : Sta G σ H ρ) (hi : tUI X tg iter σ H fun J H1 => ∃ ds P, Ext G H H1 ∧ Walks X.K J P ds ∧ P (G.av ρ σ) H1 ∧ wLcK pt vs wt we ρ Q ds) (k : ∀ v H' x, Ext G H H' → WR G ρ σ H H' v x → Q x → Q' v H') :
    tLc (tUI X tg iter) (pt.g X.K) (ttB X scope ifs) (teB X scope elt) vs σ H Q' := by
  refine fun pins sh I0 => thn (hi pins sh I0) fun v s1 h1 => thn h1 fun itv s2 h2 => ?_
  obtain ⟨it, fp, tn, J, H1, e0, I2, T, st2, f2, ds, P, e1, wk, p0, now, Iv, i0, it1, it2⟩ := h2
  refine ⟨it, fp, tn, J, H1, e0, I2, T, st2, f2, fun Dl hD => ?_⟩
  have s1' := s.ext e1
  have hDN : No H1 Dl := No.of hD
  have hDH : No H Dl := s.fresh e1 hDN
  have x0 := s1'.new (o := .lst []) hD
  refine ⟨fun i m H' => m = ds.length - i ∧ i ≤ ds.length ∧ ∃ acc accD, H' Dl = some (.lst acc) ∧ Ext G H1 H' ∧ Rps G.K ((G.more Dl).av ρ σ) H' acc accD ∧ P ((G.more Dl).av ρ σ) H' ∧ Iv i accD,
    ⟨ds.length, by simp, Nat.zero_le _, [], [], upd_same, x0, .nil, wk.keep _ _ _ _ p0 fun v d r => ?_, i0⟩, ?_⟩
  · refine Rp.mono (fun a z => (more_av.mp z).imp id fun e => by rw [e]; exact hDN) (fun a u n _ e => ?_) d v r
    rw [upd_ne (ne_of_none e hD)]; exact e
  rintro i m H' ⟨rfl, hi1, acc, accD, hacc, xH, racc, pP, iI⟩
  have hne : ¬ No H' Dl := fun z => z.lst hacc
  have sM : Sta (G.more Dl) σ H' ρ := s1'.more xH hDN hne
  by_cases hlt : i < ds.length
  · obtain ⟨j1, j2⟩ := wk.item i _ H' (fun a => sM.avdom) pP hlt
    refine .inr ⟨j1, fun H2 => ∃ acc accD, H2 Dl = some (.lst acc) ∧ Ext G H1 H2 ∧ Rps G.K ((G.more Dl).av ρ σ) H2 acc accD ∧ P ((G.more Dl).av ρ σ) H2 ∧ Iv (i + 1) accD, fun H2 ⟨a, b, q1, q2, q3, q4, q5⟩ => ⟨ds.length - (i + 1), by omega, rfl, hlt, a, b, q1, q2, q3, q4, q5⟩, fun x H2 y => ?_⟩
    obtain ⟨e2', d, ed, rd⟩ := j2 x H2 y
    have e2 : Ext (G.more Dl) H' H2 := Ext.all e2'
    have sM2 := sM.ext e2
    have sW : Sta (G.more Dl) (L2.wipe σ vs) H2 (wipeR ρ vs) := sM2.wipe vs
    have avW : ∀ a, (G.more Dl).av (wipeR ρ vs) (L2.wipe σ vs) a → (G.more Dl).av ρ σ a := fun a z => by
      rcases z with z | z | ⟨j, es, z1, z2⟩
      · exact .inl z
      · exact .inr (.inl z)
      · have hj : j ∉ vs := fun q => by
          rw [wipe_in q] at z2
          split at z2 <;> cases z2
        rw [wipeR_o hj] at z1
        rw [wipe_o hj] at z2
        exact .inr (.inr ⟨j, es, z1, z2⟩)
    have hKm : (G.more Dl).K = X.K := hK
    refine bind_go hKm sW ((hK ▸ rd : Rp (G.more Dl).K _ _ _ _).fit avW) (it1 i d accD ed iI) fun σ2 ρ2 s3 g3 nj n3 => ?_
    have hw : L2.wipe σ2 vs = L2.wipe σ vs := wipe_same (by rw [nj.1, wipe_length]) fun j hj => (nj.2 j fun z => hj (hsl j z)).1
    refine ⟨hw, fun sb Hb C cl fpb pins2 sh2 I3 => ?_⟩
    have av3 : ∀ a, (G.more Dl).av ρ σ a → (G.more Dl).av ρ2 σ2 a := fun a z => by
      rcases z with z | z | ⟨j, es, z1, z2⟩
      · exact .inl z
      · exact .inr (.inl z)
      · have hj : j ∉ vs := fun q => noOw_at now j q es z1
        have hj2 : j ∉ pt.slots := fun q => hj (hsl j q)
        refine .inr (.inr ⟨j, es, ?_, ?_⟩)
        · rw [(nj.2 j hj2).2, wipeR_o hj]; exact z1
        · rw [(nj.2 j hj2).1, wipe_o hj]; exact z2
    have kD : ∀ {Ha Hb : Hp}, Ext (G.more Dl) Ha Hb → Ha Dl = some (.lst acc) → Hb Dl = some (.lst acc) := fun {Ha Hb} x e => x.keep Dl _ (fun z => s1'.pne hDN z) noT_lst e
    have acc2 := e2.keep Dl _ (fun z => s1'.pne hDN z) noT_lst hacc
    refine thn ((ht sb Hb C cl fpb).run (G.more Dl) σ2 H2 ρ2 _ _ hKm s3 tk0 n3 pins2 sh2 I3) fun b s4 ⟨H3, I4, e3, q⟩ => ⟨H3, I4, ?_⟩
    cases b with
    | false =>
      exact ⟨acc, accD, kD e3 acc2, xH.trans (e2.trans e3).less, Rps.ext (G := G.more Dl) (e2.trans e3) racc, wk.keep _ _ _ _ pP fun v d r => hK ▸ Rp.ext (G := G.more Dl) (e2.trans e3) (hK ▸ r), q⟩
    | true =>
      show teB X scope elt σ2 H3 _
      intro sb Hb C cl fpb
      refine ((he sb Hb C cl fpb).run (G.more Dl) σ2 H3 ρ2 _ _ hKm (s3.ext e3) tk0 q).mono fun y H4 ⟨x, e4, r4, q4⟩ => ?_
      unfold W.clnK at q4
      split at q4
      · rename_i dy ey
        have eL : Ext (G.more Dl) H' H4 := e2.trans (e3.trans e4)
        have accE := kD eL hacc
        have ry := r4.cln (s3.ext e3) ey
        have keepU : ∀ a u, ¬ (G.more Dl).av ρ σ a → noT u → H4 a = some u → upd H4 Dl (.lst (acc ++ [y])) a = some u := fun a u n _ e => by
          rw [upd_ne fun z => n (by rw [z]; exact more_av.mpr (.inr rfl))]; exact e
        have extU : Ext G H1 (upd H4 Dl (.lst (acc ++ [y]))) := by
          have x1 := xH.trans eL.less
          refine ⟨fun a u n t e => ?_, fun p c e b => ?_, fun t => tabs_put (x1.tok t) accE⟩
          · rw [upd_ne (ne_of_none e hD)]; exact x1.keep a u n t e
          · obtain ⟨n', ns, i', j', k', l', b1, b2, b3⟩ := x1.bok p c e b
            obtain ⟨w1, w2⟩ := b.some
            exact ⟨n', ns, i', j', k', l', by rw [upd_ne (fun z => w1 (by rw [z]; exact hDN))]; exact b1, by rw [upd_ne (fun z => w2 (by rw [z]; exact hDN))]; exact b2, b3⟩
        refine ⟨acc, accE, by rw [racc.length]; exact big_lt q4.1, acc ++ [y], accD ++ [dy], upd_same, extU, ?_, ?_, q4.2⟩
        · exact Rps.mono (fun a z => .inl z) keepU _ _ ((Rps.ext (G := G.more Dl) eL racc).append (.cons (Rp.fit av3 ry) .nil))
        · refine wk.keep _ _ _ _ pP fun v d r => Rp.mono (fun a z => .inl z) keepU _ _ (hK ▸ Rp.ext (G := G.more Dl) eL (hK ▸ r))
      · exact q4.elim
  · have e3 : i = ds.length := by omega
    subst e3
    refine .inl ⟨wk.stop _ H' pP, k _ H' (.fr accD) (e1.trans xH) ⟨Dl, acc, rfl, hDH, hacc, racc.fit fun a z => more_av.mpr z⟩ (it2 accD iI)⟩
theorem peB {scope : Scope} {e : Expr} (s : Shared) (H : Hp) (C : Addr) (cl : List (Str × Addr)) (fp : List Addr) : PE (Cx.bk X scope s H C cl fp) e (teB X scope e) := ⟨fun pins sh σ H' Q I h => h s H C cl fp pins sh I⟩
theorem ptB {scope : Scope} {ifs : List Expr} (s : Shared) (H : Hp) (C : Addr) (cl : List (Str × Addr)) (fp : List Addr) : PTs (Cx.bk X scope s H C cl fp) ifs (ttB X scope ifs) := ⟨fun pins sh σ H' Q I h => h s H C cl fp pins sh I⟩
theorem sim_lc {pt : Pt} (hc : X.calm = true) (hN : X.N.Nodup) (hi : SimI X ec tg iter wi) (ok : BlkOk X.N X.env.scope scope own) (hsl : ∀ j ∈ pt.slots, j ∈ own.map (·.2))
    (hg : ∀ (s : Shared) (H : Hp) (C : Addr) (cl : List (Str × Addr)) (fp : List Addr), PG (Cx.bk X scope s H C cl fp) tg (pt.g X.K)) (ht : ∀ s H C cl fp, SimTs (Cx.bk X scope s H C cl fp) ec ifs wt) (he : ∀ s H C cl fp, SimE (Cx.bk X scope s H C cl fp) ec elt we)
    (hs : ∀ x, foldedSetIterable iter X.env x = pure x := by intro _; rfl) : SimE X ec (.ListComp elt [⟨tg, iter, ifs, 0⟩] scope pos) (wLc pt (own.map (·.2)) wi wt we) := by
  refine ⟨fun G σ H ρ Q E hK s t h => peu (pe_lc hc hN piU ok hg (fun s H C cl fp => ptB s H C cl fp) (fun s H C cl fp => peB s H C cl fp) hs) ?_⟩
  exact lc_go hsl ht he hK s (hi.run G σ H ρ _ _ hK s t h) fun v H' x e r q => ⟨x, e, r, q⟩
/-- name = [..] on one line, the name a plain local: data -/
theorem s_setLc {pt : Pt} {i : Nat} {y : Str} {py spos : Pos} (hc : X.calm = true) (hN : X.N.Nodup) (hy : X.N[i]? = some y) (hyl : X.env.scope.names.lookup y = some .local)
    (hsw : swapsWith (.ListComp elt [⟨tg, iter, ifs, 0⟩] scope pos) (some (.Name y py)) spos.line X.env = pure true) (hi : SimI X ec tg iter wi) (ok : BlkOk X.N X.env.scope scope own) (hsl : ∀ j ∈ pt.slots, j ∈ own.map (·.2))
    (hg : ∀ (s : Shared) (H : Hp) (C : Addr) (cl : List (Str × Addr)) (fp : List Addr), PG (Cx.bk X scope s H C cl fp) tg (pt.g X.K)) (ht : ∀ s H C cl fp, SimTs (Cx.bk X scope s H C cl fp) ec ifs wt) (he : ∀ s H C cl fp, SimE (Cx.bk X scope s H C cl fp) ec elt we)
    (hs : ∀ x, foldedSetIterable iter X.env x = pure x := by intro _; rfl) : SimS X ec (.Assign [.Name y py] (.ListComp elt [⟨tg, iter, ifs, 0⟩] scope pos) spos) (wAsg i (wLc pt (own.map (·.2)) wi wt we)) := by
  refine ⟨fun G σ H ρ O D hK s t en h => psu (ps_setLc hc hN hy hyl hsw piU ok hg (fun s H C cl fp => ptB s H C cl fp) (fun s H C cl fp => peB s H C cl fp) hs) ?_⟩
  exact lc_go hsl ht he hK s (hi.run G σ H ρ _ _ hK s (t.tk s) h) fun v H' x e r q => asg_go s en e r q
/-- .. a list to own -/
theorem s_ownLc {pt : Pt} {i : Nat} {y : Str} {py spos : Pos} (hc : X.calm = true) (hN : X.N.Nodup) (hy : X.N[i]? = some y) (hyl : X.env.scope.names.lookup y = some .local)
    (hsw : swapsWith (.ListComp elt [⟨tg, iter, ifs, 0⟩] scope pos) (some (.Name y py)) spos.line X.env = pure true) (hi : SimI X ec tg iter wi) (ok : BlkOk X.N X.env.scope scope own) (hsl : ∀ j ∈ pt.slots, j ∈ own.map (·.2))
    (hg : ∀ (s : Shared) (H : Hp) (C : Addr) (cl : List (Str × Addr)) (fp : List Addr), PG (Cx.bk X scope s H C cl fp) tg (pt.g X.K)) (ht : ∀ s H C cl fp, SimTs (Cx.bk X scope s H C cl fp) ec ifs wt) (he : ∀ s H C cl fp, SimE (Cx.bk X scope s H C cl fp) ec elt we)
    (hs : ∀ x, foldedSetIterable iter X.env x = pure x := by intro _; rfl) : SimS X ec (.Assign [.Name y py] (.ListComp elt [⟨tg, iter, ifs, 0⟩] scope pos) spos) (wOwn i (wLc pt (own.map (·.2)) wi wt we)) := by
  refine ⟨fun G σ H ρ O D hK s t en h => psu (ps_setLc hc hN hy hyl hsw piU ok hg (fun s H C cl fp => ptB s H C cl fp) (fun s H C cl fp => peB s H C cl fp) hs) ?_⟩
  exact lc_go hsl ht he hK s (hi.run G σ H ρ _ _ hK s (t.tk s) h) fun v H' x e r q => own_go s en e r q
end
end R
namespace R
open PySem PySem.Spec PyProof.Rows L2
set_option autoImplicit false
/-! ### 13. the bag: steps told at the heap -/
section
variable {X : Cx} {σ : St} {H : Hp} {D : Ends} {e a b c k : Expr} {v u : V} {pos p1 p2 p3 : Pos} {s1 s2 : List Stmt} {st : Stmt} {rest : List Stmt}
/-- e is v here, and nothing changes -/
def Vl (X : Cx) (e : Expr) (σ : St) (H : Hp) (v : V) : Prop := ∀ Q : VK, Q v H → tU X e σ H Q
def Vt (X : Cx) (e : Expr) (σ : St) (H : Hp) (v : Bool) : Prop := ∀ Q : Bool → Hp → Prop, Q v H → tUT X e σ H Q
theorem vl_int {i : Int} {j : Nat} : Vl X (.Constant (.int i) j pos) σ H (.int i) := fun Q q => peu pe_int q
theorem vl_var {x : Str} (i : Nat) (hN : X.N[i]? = some x) (hv : Vis X.env.scope x) (h : σ[i]? = some (some v)) (hd : (x == ("__debug__" : Str)) = false := by decide) (hcd : (x == ("__classdict__" : Str)) = false := by decide) : Vl X (.Name x pos) σ H v := fun Q q => peu (pe_var hN hv hd hcd) ⟨v, h, q⟩
theorem vl_ii {op : Operator} {C : Int → Int → Prop} {g : Int → Int → V} {i j : Int} (ho : OpR X (binaryOp op) (rI C g)) (ha : Vl X a σ H (.int i)) (hb : Vl X b σ H (.int j)) (hc : C i j) : Vl X (.BinOp a op b pos) σ H (g i j) :=
  fun Q q => peu (pe_op ho peU peU) (ha _ (hb _ ⟨i, j, rfl, rfl, hc, q⟩))
theorem vl_i0 {op : Operator} {g : Int → Int → V} {i j : Int} (ho : OpR X (binaryOp op) (rI0 g)) (ha : Vl X a σ H (.int i)) (hb : Vl X b σ H (.int j)) : Vl X (.BinOp a op b pos) σ H (g i j) :=
  fun Q q => peu (pe_op ho peU peU) (ha _ (hb _ ⟨i, j, rfl, rfl, q⟩))
theorem vl_ix {p : Addr} {xs : List V} {i : Int} (hp : PlainIx b) (ha : Vl X a σ H (.ref p)) (hb : Vl X b σ H (.int i)) (h : SqL X.K H p xs) (hi : L2.atI xs i = some v) : Vl X (.Subscript a b pos) σ H v :=
  fun Q q => peu (pe_ix ix_seq peU peU hp) (ha _ (hb _ (.inl ⟨p, xs, i, v, rfl, rfl, h, hi, q⟩)))
theorem vl_int1 {i : Int} (hg : Gl X "int") (hm : X.mg "int" = none) (ha : Vl X a σ H (.int i)) (hs : starEach [a] X.env = [(false, eval a X.env)] := by rfl) : Vl X (.Call (.Name "int" p1) [a] [] pos) σ H (.int i) :=
  fun Q q => peu (pe_callTy call_int1 hg hm rfl (pa_cons peU pa_nil hs) (he := hs)) (ha _ (.inl ⟨i, rfl, q⟩))
theorem vl_abs {i : Int} (hg : Gl X "abs") (hm : X.mg "abs" = none) (ha : Vl X a σ H (.int i)) (hs : starEach [a] X.env = [(false, eval a X.env)] := by rfl) : Vl X (.Call (.Name "abs" p1) [a] [] pos) σ H (.int (if i < 0 then -i else i)) :=
  fun Q q => peu (pe_callB call_abs hg hm rfl (pa_cons peU pa_nil hs) (he := hs)) (ha _ ⟨i, rfl, q⟩)
theorem vl_len {p : Addr} {xs : List V} (hg : Gl X "len") (hm : X.mg "len" = none) (ha : Vl X a σ H (.ref p)) (h : SqL X.K H p xs) (hs : starEach [a] X.env = [(false, eval a X.env)] := by rfl) : Vl X (.Call (.Name "len" p1) [a] [] pos) σ H (.int xs.length) :=
  fun Q q => peu (pe_callB call_len hg hm rfl (pa_cons peU pa_nil hs) (he := hs)) (ha _ ⟨_, xs.length, rfl, .inl ⟨xs, h, rfl⟩, q⟩)
theorem vl_max {i j : Int} (hc : X.calm = true) (hg : Gl X "max") (hm : X.mg "max" = none) (ha : Vl X a σ H (.int i)) (hb : Vl X b σ H (.int j)) (hs : starEach [a, b] X.env = (false, eval a X.env) :: starEach [b] X.env := by rfl) (hs2 : starEach [b] X.env = [(false, eval b X.env)] := by rfl) :
    Vl X (.Call (.Name "max" p1) [a, b] [] pos) σ H (.int (if j > i then j else i)) :=
  fun Q q => peu (pe_callB (call_max2 hc) hg hm rfl (pa_cons peU (pa_cons peU pa_nil hs2) hs) (he := hs) (hpl := by rw [hs2]; rfl)) (ha _ (hb _ ⟨i, j, rfl, q⟩))
theorem vt_cmp {op : CmpOp} {g : Int → Int → V} {i j : Int} {z : Bool} (ho : OpR X (compareOp op) (rI0 g)) (ha : Vl X a σ H (.int i)) (hb : Vl X b σ H (.int j)) (hz : g i j = .bl z) (hm : behindInMarks op b = false) : Vt X (.Compare a [op] [b] pos) σ H z :=
  fun Q q => ptu (pt_cmpR ho peU peU hm) (ha _ (hb _ ⟨i, j, rfl, rfl, z, hz, q⟩))
theorem vt_eq {i j : Int} (ha : Vl X a σ H (.int i)) (hb : Vl X b σ H (.int j)) (hm : behindInMarks .Eq b = false) : Vt X (.Compare a [.Eq] [b] pos) σ H (decide (i = j)) :=
  fun Q q => ptu (pt_cmpR op_eq peU peU hm) (ha _ (hb _ ⟨rfl, decide (i = j), by simp, q⟩))
theorem vt_and {x y : Bool} (ha : Vt X a σ H x) (hb : x = true → Vt X b σ H y) (hy : x = false → y = false) : Vt X (.BoolOp .And [a, b] pos) σ H y := by
  intro Q q
  refine ptu (PW.pt (pw_and ptU (pw_and1 ptU))) (ha _ ?_)
  cases x with
  | true => exact hb rfl Q q
  | false => have := hy rfl; subst this; exact q
theorem u_cons (h : tUS X st { D with nx := fun σ1 H1 => tUSs X rest D σ1 H1 } σ H) : tUSs X (st :: rest) D σ H := pssu (pss_cons psU pssU) h
theorem u_nil (h : D.nx σ H) : tUSs X [] D σ H := pssu pss_nil h
theorem u_if {z : Bool} (hc : Vt X c σ H z) (h1 : z = true → tUSs X s1 D σ H) (h2 : z = false → tUSs X s2 D σ H) : tUS X (.If c s1 s2 pos) D σ H := by
  refine psu (ps_if ptU pssU pssU) (hc _ ?_)
  cases z with
  | true => exact h1 rfl
  | false => exact h2 rfl
theorem u_ret (ha : Vl X a σ H v) (h : D.rt v H) : tUS X (.Return (some a) pos) D σ H := psu (ps_ret peU) (ha _ h)
theorem u_set {x : Str} (i : Nat) (hN : X.N.Nodup) (hi : X.N[i]? = some x) (hx : X.env.scope.names.lookup x = some .local) (ha : Vl X a σ H v) (h : D.nx (σ.set i (some v)) H) (hs : swapsWith a (some (.Name x p1)) pos.line X.env = pure false := by rfl) : tUS X (.Assign [.Name x p1] a pos) D σ H :=
  psu (ps_set hN hi (.inl hx) peU hs (.inr hx)) (ha _ h)
theorem u_put {p : Addr} {xs : List V} {i : Int} {j : Nat} (ha : Vl X a σ H v) (hb : Vl X b σ H (.ref p)) (hk : Vl X k σ H (.int i)) (hp : H p = some (.lst xs)) (hj : ixN xs.length i = some j) (h : D.nx σ (upd H p (.lst (xs.set j v))))
    (pa : ∀ {te : TE} {tg : TG}, PE X a te → PG X (.Subscript b k p2) tg → PS X (.Assign [.Subscript b k p2] a pos) (tAsg te tg)) (pg : ∀ {to ti : TE} {t : TSet}, PE X b to → PE X k ti → PSet X t → PG X (.Subscript b k p2) (gSub to ti t)) : tUS X (.Assign [.Subscript b k p2] a pos) D σ H :=
  psu (pa peU (pg peU peU set_list)) (ha _ (hb _ (hk _ ⟨p, xs, i, j, rfl, rfl, hp, hj, h⟩)))
end
theorem log2_lt {n k : Nat} (h : n < 2 ^ k) (hk : 0 < k) : n.log2 < k := by
  by_cases z : n = 0
  · subst z; simpa using hk
  · exact (Nat.log2_lt z).mpr h
def NPick : List Str := ["bag", "many", "cell", "digit", "number"]
/-- the heap but for the bag at p -/
def ExtB (p : Addr) (H H' : Hp) : Prop := ∀ a, a ≠ p → H' a = H a
section
variable {X : Cx} {σ : St} {H : Hp} {D : Ends} {PP : Pos}
def bagV (c : Addr) (i j k l : Int) : List V := [.ref c, .int i, .int j, .int k, .int l]
theorem pick_body {p0 p1 p2 p3 p4 p5 p6 p7 p8 p9 p10 p11 p12 p13 p14 p15 p16 p17 p18 p19 p20 p21 p22 p23 p24 p25 p26 p27 p28 p29 p30 p31 p32 p33 p34 p35 p36 p37 p38 p39 p40 p41 p42 p43 p44 p45 p46 p47 p48 p49 p50 p51 p52 p53 p54 p55 p56 p57 p58 p59 p60 p61 p62 p63 p64 p65 p66 p67 p68 p69 p70 p71 p72 p73 p74 p75 p76 p77 p78 p79 p80 p81 p82 p83 p84 p85 p86 p87 p88 p89 p90 p91 p92 p93 p94 p95 p96 p97 p98 p99 p100 p101 p102 p103 p104 p105 p106 p107 p108 p109 p110 p111 p112 p113 p114 p115 p116 p117 p118 p119 p120 p121 p122 p123 p124 p125 p126 p127 p128 p129 p130 p131 p132 p133 p134 p135 p136 p137 p138 p139 p140 p141 : Pos} (hN : X.N = NPick) (hL : ∀ x ∈ NPick, X.env.scope.names.lookup x = some .local) (hc : X.calm = true)
    (gi : Gl X "int" ∧ X.mg "int" = none) (gl : Gl X "len" ∧ X.mg "len" = none) (gm : Gl X "max" ∧ X.mg "max" = none)
    {p c : Addr} {m : Int} (hm : 0 < m) (hm2 : m.natAbs.log2 < 8000) {ns : List Int} {i j k l : Int} (hpc : p ≠ c) (hp : H p = some (.lst (bagV c i j k l))) (hcc : H c = some (.lst (ns.map V.int))) (hi : 0 ≤ i)
    (hQ : ∀ (r : Int) (H' : Hp), 0 ≤ r → r < m → ExtB p H H' → (∃ i j k l : Int, H' p = some (.lst (bagV c i j k l)) ∧ 0 ≤ i) → D.rt (.int r) H') :
    tUSs X [(.If (.BoolOp .And [(.Compare (.Subscript (.Name "bag" p0) (.Constant (.int 2) 0 p1) p2) [.Eq] [(.Constant (.int 0) 0 p3)] p4), (.Compare (.Subscript (.Name "bag" p5) (.Constant (.int 1) 0 p6) p7) [.Lt] [(.Call (.Name "len" p8) [(.Subscript (.Name "bag" p9) (.Constant (.int 0) 0 p10) p11)] [] p12)] p13)] p14) [(.Assign [(.Name "cell" p15)] (.Subscript (.Subscript (.Name "bag" p16) (.Constant (.int 0) 0 p17) p18) (.Subscript (.Name "bag" p19) (.Constant (.int 1) 0 p20) p21) p22) p23), (.Assign [(.Subscript (.Name "bag" p24) (.Constant (.int 1) 0 p25) p26)] (.BinOp (.Subscript (.Name "bag" p27) (.Constant (.int 1) 0 p28) p29) .Add (.Constant (.int 1) 0 p30) p31) p32), (.Assign [(.Subscript (.Name "bag" p33) (.Constant (.int 3) 0 p34) p35)] (.BinOp (.Call (.Name "int" p36) [(.BinOp (.BinOp (.BinOp (.Subscript (.Name "bag" p37) (.Constant (.int 3) 0 p38) p39) .Mult (.Constant (.int 69621) 0 p40) p41) .Add (.BinOp (.Name "cell" p42) .Mult (.Constant (.int 40692) 0 p43) p44) p45) .Add (.Constant (.int 17) 0 p46) p47)] [] p48) .Mod (.Constant (.int 2147483629) 0 p49) p50) p51), (.If (.Compare (.Name "cell" p52) [.GtE] [(.BinOp (.Constant (.int 10) 0 p53) .Pow (.Constant (.int 18) 0 p54) p55)] p56) [(.Assign [(.Subscript (.Name "bag" p57) (.Constant (.int 2) 0 p58) p59)] (.Name "cell" p60) p61)] [] p62)] [] p63), (.If (.Compare (.Subscript (.Name "bag" p64) (.Constant (.int 2) 0 p65) p66) [.Gt] [(.Constant (.int 0) 0 p67)] p68) [(.Assign [(.Name "digit" p69)] (.BinOp (.Call (.Name "int" p70) [(.Subscript (.Name "bag" p71) (.Constant (.int 2) 0 p72) p73)] [] p74) .Mod (.Name "many" p75) p76) p77), (.Assign [(.Subscript (.Name "bag" p78) (.Constant (.int 2) 0 p79) p80)] (.BinOp (.Subscript (.Name "bag" p81) (.Constant (.int 2) 0 p82) p83) .FloorDiv (.Call (.Name "max" p84) [(.Constant (.int 2) 0 p85), (.Name "many" p86)] [] p87) p88) p89), (.Return (.some (.Name "digit" p90)) p91)] [] p92), (.Assign [(.Subscript (.Name "bag" p93) (.Constant (.int 4) 0 p94) p95)] (.BinOp (.Subscript (.Name "bag" p96) (.Constant (.int 4) 0 p97) p98) .Add (.Constant (.int 1) 0 p99) p100) p101), (.Assign [(.Name "number" p102)] (.BinOp (.Call (.Name "int" p103) [(.BinOp (.Call (.Name "int" p104) [(.BinOp (.Subscript (.Name "bag" p105) (.Constant (.int 3) 0 p106) p107) .Add (.BinOp (.Constant (.int 7919) 0 p108) .Mult (.Subscript (.Name "bag" p109) (.Constant (.int 4) 0 p110) p111) p112) p113)] [] p114) .Mult (.Constant (.int 48271) 0 p115) p116)] [] p117) .Mod (.Constant (.int 2147483647) 0 p118) p119) p120), (.Assign [(.Name "number" p121)] (.BinOp (.Call (.Name "int" p122) [(.BinOp (.Name "number" p123) .Mult (.BinOp (.BinOp (.Name "number" p124) .FloorDiv (.Constant (.int 1009) 0 p125) p126) .Add (.Constant (.int 69621) 0 p127) p128) p129)] [] p130) .Mod (.Constant (.int 2147483647) 0 p131) p132) p133), (.Return (.some (.BinOp (.Call (.Name "int" p134) [(.BinOp (.Name "number" p135) .FloorDiv (.Constant (.int 16) 0 p136) p137)] [] p138) .Mod (.Name "many" p139) p140)) p141)] D [some (.ref p), some (.int m), none, none, none] H := by
  have nd : X.N.Nodup := by rw [hN]; decide
  have n0 : X.N[0]? = some ("bag" : Str) := by rw [hN]; rfl
  have n1 : X.N[1]? = some ("many" : Str) := by rw [hN]; rfl
  have n2 : X.N[2]? = some ("cell" : Str) := by rw [hN]; rfl
  have n3 : X.N[3]? = some ("digit" : Str) := by rw [hN]; rfl
  have n4 : X.N[4]? = some ("number" : Str) := by rw [hN]; rfl
  have l0 := hL "bag" (by decide)
  have l1 := hL "many" (by decide)
  have l2 := hL "cell" (by decide)
  have l3 := hL "digit" (by decide)
  have l4 := hL "number" (by decide)
  have B : ∀ {σ : St} {pos : Pos} {H : Hp}, σ[0]? = some (some (.ref p)) → Vl X (.Name "bag" pos) σ H (.ref p) := fun h => vl_var 0 n0 (.inl l0) h
  have M : ∀ {σ : St} {pos : Pos} {H : Hp}, σ[1]? = some (some (.int m)) → Vl X (.Name "many" pos) σ H (.int m) := fun h => vl_var 1 n1 (.inl l1) h
  have I : ∀ {a : Expr} {σ : St} {H : Hp} {i : Int} {p q : Pos}, Vl X a σ H (.int i) → starEach [a] X.env = [(false, eval a X.env)] → Vl X (.Call (.Name "int" p) [a] [] q) σ H (.int i) := fun h hs => vl_int1 gi.1 gi.2 h hs
  have bg : ∀ {σ : St} {H : Hp} {p1 p2 p3 : Pos} {i j k l : Int} {n : Int} {v : V}, σ[0]? = some (some (.ref p)) → H p = some (.lst (bagV c i j k l)) → L2.atI (bagV c i j k l) n = some v → Vl X (.Subscript (.Name "bag" p1) (.Constant (.int n) 0 p2) p3) σ H v :=
    fun h h2 h3 => vl_ix (fun _ _ => rfl) (B h) vl_int (SqL.of h2) h3
  have cst : ∀ {b : Int}, -(2 ^ 64) < b → b < 2 ^ 64 → ∀ {a : Int}, MulOk a b := fun {b} h1 h2 {a} => .inr (.inl ⟨h1, h2⟩)
  -- from the second test on
  have tail : ∀ (σ : St) (H1 : Hp) (i j k l : Int), σ.length = 5 → σ[0]? = some (some (.ref p)) → σ[1]? = some (some (.int m)) → H1 p = some (.lst (bagV c i j k l)) → 0 ≤ i → ExtB p H H1 →
      tUSs X [(.If (.Compare (.Subscript (.Name "bag" p64) (.Constant (.int 2) 0 p65) p66) [.Gt] [(.Constant (.int 0) 0 p67)] p68) [(.Assign [(.Name "digit" p69)] (.BinOp (.Call (.Name "int" p70) [(.Subscript (.Name "bag" p71) (.Constant (.int 2) 0 p72) p73)] [] p74) .Mod (.Name "many" p75) p76) p77), (.Assign [(.Subscript (.Name "bag" p78) (.Constant (.int 2) 0 p79) p80)] (.BinOp (.Subscript (.Name "bag" p81) (.Constant (.int 2) 0 p82) p83) .FloorDiv (.Call (.Name "max" p84) [(.Constant (.int 2) 0 p85), (.Name "many" p86)] [] p87) p88) p89), (.Return (.some (.Name "digit" p90)) p91)] [] p92), (.Assign [(.Subscript (.Name "bag" p93) (.Constant (.int 4) 0 p94) p95)] (.BinOp (.Subscript (.Name "bag" p96) (.Constant (.int 4) 0 p97) p98) .Add (.Constant (.int 1) 0 p99) p100) p101), (.Assign [(.Name "number" p102)] (.BinOp (.Call (.Name "int" p103) [(.BinOp (.Call (.Name "int" p104) [(.BinOp (.Subscript (.Name "bag" p105) (.Constant (.int 3) 0 p106) p107) .Add (.BinOp (.Constant (.int 7919) 0 p108) .Mult (.Subscript (.Name "bag" p109) (.Constant (.int 4) 0 p110) p111) p112) p113)] [] p114) .Mult (.Constant (.int 48271) 0 p115) p116)] [] p117) .Mod (.Constant (.int 2147483647) 0 p118) p119) p120), (.Assign [(.Name "number" p121)] (.BinOp (.Call (.Name "int" p122) [(.BinOp (.Name "number" p123) .Mult (.BinOp (.BinOp (.Name "number" p124) .FloorDiv (.Constant (.int 1009) 0 p125) p126) .Add (.Constant (.int 69621) 0 p127) p128) p129)] [] p130) .Mod (.Constant (.int 2147483647) 0 p131) p132) p133), (.Return (.some (.BinOp (.Call (.Name "int" p134) [(.BinOp (.Name "number" p135) .FloorDiv (.Constant (.int 16) 0 p136) p137)] [] p138) .Mod (.Name "many" p139) p140)) p141)] D σ H1 := by
    intro σ H1 i j k l hl h0 h1 hb hi0 ex
    refine u_cons (u_if (vt_cmp op_gt (bg h0 hb rfl) vl_int rfl rfl) (fun z => ?_) fun z => ?_)
    · refine u_cons (u_set 3 nd n3 l3 (vl_ii op_modN (I (bg h0 hb rfl) rfl) (M h1) (by omega)) ?_)
      refine u_cons (u_put (vl_ii op_divA (bg (σ := σ.set 3 _) (by simpa using h0) hb rfl) (vl_max hc gm.1 gm.2 vl_int (M (σ := σ.set 3 _) (by simpa using h1))) ?_) (B (σ := σ.set 3 _) (by simpa using h0)) vl_int hb rfl ?_ (fun a b => ps_asg a b) (fun a b c => pg_sub a b c))
      · refine ⟨by split <;> omega, ?_⟩
        split
        · omega
        · exact Nat.lt_of_le_of_lt (by decide : Nat.log2 (Int.natAbs 2) ≤ 1) (by decide)
      · refine u_cons (u_ret (vl_var 3 n3 (.inl l3) (List.getElem?_set_self (by omega))) ?_)
        refine hQ _ _ ?_ ?_ (fun a na => ?_) ⟨_, _, _, _, upd_same, hi0⟩
        · rw [Int.fmod_eq_emod_of_nonneg _ (by omega)]; exact Int.emod_nonneg _ (by omega)
        · rw [Int.fmod_eq_emod_of_nonneg _ (by omega)]; exact Int.emod_lt_of_pos _ hm
        · rw [upd_ne na]; exact ex a na
    · refine u_nil ?_
      refine u_cons (u_put (vl_i0 op_add (bg h0 hb rfl) vl_int) (B h0) vl_int hb rfl ?_ (fun a b => ps_asg a b) (fun a b c => pg_sub a b c))
      have hb2 : upd H1 p (.lst ((bagV c i j k l).set 4 (.int (l + 1)))) p = some (.lst (bagV c i j k (l + 1))) := upd_same
      refine u_cons (u_set 4 nd n4 l4 (vl_ii op_modN (I (vl_ii op_mulA (I (vl_i0 op_add (bg h0 hb2 rfl) (vl_ii op_mulA vl_int (bg h0 hb2 rfl) (.inl ⟨by decide, by decide⟩))) rfl) vl_int (cst (by decide) (by decide))) rfl) vl_int (by decide)) ?_)
      have b4 : ∀ {σ : St} {x : V}, σ.length = 5 → (σ.set 4 (some x))[4]? = some (some x) := fun h => List.getElem?_set_self (by omega)
      have rng : ∀ z : Int, -(2 ^ 64) < z.fmod 2147483647 ∧ z.fmod 2147483647 < 2 ^ 64 := fun z => by
        rw [Int.fmod_eq_emod_of_nonneg _ (by decide)]
        omega
      refine u_cons (u_set 4 nd n4 l4 (vl_ii op_modN (I (vl_ii op_mulA (vl_var 4 n4 (.inl l4) (b4 hl)) (vl_i0 op_add (vl_ii op_divA (vl_var 4 n4 (.inl l4) (b4 hl)) vl_int ⟨by decide, by decide⟩) vl_int) (.inl (rng _))) rfl) vl_int (by decide)) ?_)
      refine u_cons (u_ret (vl_ii op_modN (I (vl_ii op_divA (vl_var 4 n4 (.inl l4) (b4 (by simpa using hl))) vl_int ⟨by decide, by decide⟩) rfl) (M (by simpa using h1)) (by omega)) ?_)
      refine hQ _ _ ?_ ?_ (fun a na => ?_) ⟨_, _, _, _, hb2, hi0⟩
      · rw [Int.fmod_eq_emod_of_nonneg _ (by omega)]; exact Int.emod_nonneg _ (by omega)
      · rw [Int.fmod_eq_emod_of_nonneg _ (by omega)]; exact Int.emod_lt_of_pos _ hm
      · rw [upd_ne na]; exact ex a na
  refine u_cons (u_if (z := decide (j = 0) && decide (i < (ns.map V.int).length)) (vt_and (vt_eq (bg rfl hp rfl) vl_int rfl) (fun _ => vt_cmp op_lt (bg rfl hp rfl) (vl_len gl.1 gl.2 (bg rfl hp rfl) (SqL.of hcc)) ?_ rfl) ?_) (fun z => ?_) fun z => ?_)
  · rename_i h; rw [h]; rfl
  · intro h; rw [h]; rfl
  · have hlt : i < ((ns.map V.int).length : Int) := by
      simp only [Bool.and_eq_true, decide_eq_true_eq] at z
      exact z.2
    obtain ⟨x, hx⟩ : ∃ x : Int, L2.atI (ns.map V.int) i = some (.int x) := by
      unfold L2.atI ixN
      rw [if_pos hi, if_pos hlt]
      have : i.toNat < ns.length := by rw [List.length_map] at hlt; omega
      exact ⟨ns[i.toNat], by simp [this]⟩
    refine u_cons (u_set 2 nd n2 l2 (vl_ix (fun _ _ => rfl) (bg rfl hp rfl) (bg rfl hp rfl) (SqL.of hcc) hx) ?_)
    refine u_cons (u_put (vl_i0 op_add (bg rfl hp rfl) vl_int) (B rfl) vl_int hp rfl ?_ (fun a b => ps_asg a b) (fun a b c => pg_sub a b c))
    have hp2 : upd H p (.lst ((bagV c i j k l).set 1 (.int (i + 1)))) p = some (.lst (bagV c (i + 1) j k l)) := upd_same
    refine u_cons (u_put (vl_ii op_modN (I (vl_i0 op_add (vl_i0 op_add (vl_ii op_mulA (bg rfl hp2 rfl) vl_int (cst (by decide) (by decide))) (vl_ii op_mulA (vl_var 2 n2 (.inl l2) rfl) vl_int (cst (by decide) (by decide)))) vl_int) rfl) vl_int (by decide)) (B rfl) vl_int hp2 rfl ?_ (fun a b => ps_asg a b) (fun a b c => pg_sub a b c))
    have hp3 : ∀ {H : Hp} {k2 : Int}, upd H p (.lst ((bagV c (i + 1) j k l).set 3 (.int k2))) p = some (.lst (bagV c (i + 1) j k2 l)) := upd_same
    have ex3 : ∀ {z z2 : HO}, ExtB p H (upd (upd H p z) p z2) := fun a na => by rw [upd_ne na, upd_ne na]
    refine u_cons (u_if (vt_cmp op_ge (vl_var 2 n2 (.inl l2) rfl) (vl_ii op_pow vl_int vl_int ⟨by decide, by decide, by decide⟩) rfl rfl) (fun z => ?_) fun z => ?_)
    · refine u_cons (u_put (vl_var 2 n2 (.inl l2) rfl) (B rfl) vl_int hp3 rfl ?_ (fun a b => ps_asg a b) (fun a b c => pg_sub a b c))
      refine u_nil (u_nil ?_)
      refine tail _ _ (i + 1) x _ l rfl rfl rfl upd_same (by omega) fun a na => ?_
      rw [upd_ne na]; exact ex3 a na
    · refine u_nil (u_nil ?_)
      exact tail _ _ (i + 1) j _ l rfl rfl rfl hp3 (by omega) ex3
  · refine u_nil ?_
    exact tail _ H i j k l rfl rfl rfl hp hi fun a na => rfl
end
end R
namespace R
open PySem PySem.Spec PyProof.Rows L2
set_option autoImplicit false
/-! ### 14. a def by its word -/
def W.en : W → Option En
  | .d x => some (.im x)
  | .bag => some .bag
  | _ => none
def startR (N : List Str) (xs : List W) : Rho := xs.map W.en ++ List.replicate (N.length - xs.length) none
section
variable {K : PySem.W.Frag} {S : Addr → Prop} {H : Hp} {bg : Option (Addr × Addr)} {vs : List V} {xs : List W} {N : List Str}
theorem WRs.at {G : Gh} {σ : St} {H H' : Hp} {ρ : Rho} : ∀ {vs : List V} {xs : List W} {i : Nat} {x : W}, WRs G ρ σ H H' vs xs → xs[i]? = some x → ∃ v, vs[i]? = some v ∧ WR G ρ σ H H' v x
  | _, _, i, x, .nil, e => by simp at e
  | _, _, i, x, .cons r t, e => by
    cases i with
    | zero => simp at e; subst e; exact ⟨_, rfl, r⟩
    | succ i =>
      obtain ⟨v, h1, h2⟩ := WRs.at (i := i) t (by simpa using e)
      exact ⟨v, by simpa using h1, h2⟩
theorem startR_at {i : Nat} {e : En} (h : (startR N xs)[i]? = some (some e)) : ∃ x, xs[i]? = some x ∧ x.en = some e := by
  unfold startR at h
  by_cases hl : i < xs.length
  · rw [List.getElem?_append_left (by simpa using hl)] at h
    rw [List.getElem?_map] at h
    refine ⟨xs[i], by simp [hl], ?_⟩
    simpa [hl] using h
  · rw [List.getElem?_append_right (by simpa using Nat.le_of_not_lt hl), List.getElem?_replicate] at h
    split at h <;> cases h
theorem start_at {i : Nat} {v : V} (h : vs[i]? = some v) : (L2.start N vs)[i]? = some (some v) := by
  unfold L2.start
  have hl : i < vs.length := (List.getElem?_eq_some_iff.mp h).1
  rw [List.getElem?_append_left (by simpa using hl), List.getElem?_map, h]
  rfl
theorem Sta.start (hS : ∀ a, S a → ¬ No H a) (hb : ∀ p c, bg = some (p, c) → BagOk H p c) (ht : LamX.Tabs ((tabK K).map (·.2)) H) (r : WRs ⟨K, S, H, bg⟩ [] [] H H vs xs) : Sta ⟨K, S, H, bg⟩ (L2.start N vs) H (startR N xs) := by
  have noo : ∀ {i : Nat} {ds : List D}, (startR N xs)[i]? ≠ some (some (.ow ds)) := fun {i ds} h => by
    obtain ⟨x, h1, h2⟩ := startR_at h
    cases x <;> cases h2
  have hav : ∀ a, Gh.av ⟨K, S, H, bg⟩ (startR N xs) (L2.start N vs) a → Gh.av ⟨K, S, H, bg⟩ [] [] a := fun a z => by
    rcases z with z | z | ⟨j, ds, z1, z2⟩
    · exact .inl z
    · exact .inr (.inl z)
    · exact absurd z1 noo
  refine ⟨?_, fun i d e => ?_, fun i ds e => absurd e noo, fun i j ds es p e => absurd e noo, fun i e => ?_, fun a u _ _ e => e, hS, hb, ht⟩
  · unfold L2.start startR
    simp [r.length]
  · obtain ⟨x, h1, h2⟩ := startR_at e
    obtain ⟨v, h3, h4⟩ := r.at h1
    cases x with
    | d y =>
      cases h2
      exact ⟨v, start_at h3, Rp.fit hav h4⟩
    | _ => cases h2
  · obtain ⟨x, h1, h2⟩ := startR_at e
    obtain ⟨v, h3, h4⟩ := r.at h1
    cases x with
    | bag =>
      obtain ⟨p, c, ev, eb⟩ := h4
      subst ev
      exact ⟨p, c, eb, start_at h3⟩
    | _ => cases h2
end
abbrev cxR (P : Program) (w : World) (K : PySem.W.Frag) (mg : Str → Option Value) (base : Heap) (N : List Str) (x : Str) (sc : Scope) (f : Addr) (cdv : Value) (A : Around) (outer : List Env) (s : Shared) (H : Hp) (E : XK) : Cx :=
  cxOf (L2.CX P w) P w K mg base N x sc f cdv A outer s H E
section
variable {P : Program} {w : World} {K : PySem.W.Frag} {mg : Str → Option Value} {base : Heap} {k : Nat} {f : Addr} {x : Str} {st : Stmt} {fd : FuncData} {N ps : List Str} {ec : Str → Addr}
/-- the word's start -/
def Prom.out (Φ : Prom) (xs : List W) : Out := { nx := fun _ => Φ.post xs (.d .none), rt := Φ.post xs, ex := fun c _ => Φ.exc xs c }
theorem tks_of {X : Cx} {E : XK} {G : Gh} {σ : St} {H : Hp} {ρ : Rho} {ex : Str → Rho → Prop} (tk : Takes X fun cls d _ H => E cls d H) (h : ∀ c H', Ext G G.H0 H' → (∃ ρ', ex c ρ') → E (.ref (ec c)) none H') : TkS X ec G ρ σ H ex :=
  tk.imp fun cls d σ' H' ⟨c, ρ', e1, e2, s', g, q⟩ => by
    subst e1 e2
    exact h c H' s'.e0 ⟨ρ', q⟩
/-- a def of the top keeps its promise: SimSs of its body, and the word answers -/
theorem fn_sim {Φ : Prom} {wf : WS} (F : FunD K x x (defArgs st) (defBody st) (defScope st) [] [] f fd) (S : FnScope N ps (defScope st)) (hn : Φ.n = ps.length)
    (hsim : ∀ (cdv : Value) (A : Around) (outer : List Env) (s : Shared) (H : Hp) (E : XK), (A.deeper (envOfC x (defScope st) s.heap.objs.size f cdv)).guards = some [] → Room k (A.deeper (envOfC x (defScope st) s.heap.objs.size f cdv)) → SimSs (cxR P w K mg base N x (defScope st) f cdv A outer s H E) ec (defBody st) wf)
    (hpure : ∀ xs : List W, xs.length = Φ.n → (∀ y ∈ xs, y.isArg) → Φ.pre xs → wf (startR N xs) (Φ.out xs)) : FnG P w K mg base (k + 1) f fd ps (spW K ec Φ) := by
  refine fng_of F S (fun vs H Q E ⟨S, bg, xs, h1, h2, ht, h3, h4, h5⟩ => ?_) fun cdv A outer s H vs Q E hg hr h => ?_
  · rw [h4.length, h5.1, hn]
  obtain ⟨S, bg, xs, h1, h2, ht, h3, h4, h5, h6, h7, h8⟩ := h
  refine ⟨_, pssU, ?_⟩
  refine (hsim cdv A outer s H E hg hr).run ⟨K, S, H, bg⟩ (L2.start N vs) H (startR N xs) (Φ.out xs) _ rfl (Sta.start h1 h2 ht h4) ?_ ?_ (hpure xs h5 h3 h6)
  · refine tks_of (takes_of (E₁ := fun e' s'' => L2.CX P w outer H s E e' s'') rfl rfl rfl rfl) fun c H' x ⟨_, q⟩ => h8 c q H' x
  · refine ⟨fun σ' H' ρ' s' g q => ?_, fun v H' z x r q => h7 z q v H' x r, fun _ _ _ _ _ q => q.elim, fun _ _ _ _ _ q => q.elim⟩
    exact h7 _ q .non H' s'.e0 Rp.non
/-! ### 15. the bag's two defs -/
abbrev lk (sc : Scope) (x : Str) : Option NameKind := sc.names.lookup x
theorem tabs_at {T : List (Addr × Str)} {H H' : Hp} {p : Addr} {xs : List V} (t : LamX.Tabs T H) (h : H p = some (.lst xs)) (hh : ∀ a, a ≠ p → H' a = H a) : LamX.Tabs T H' := fun z hz => by
  obtain ⟨ps, h1, h2, h3⟩ := t z hz
  refine ⟨ps, by rw [hh _ (ne_of h1 h (by simp))]; exact h1, h2, fun pos cv hc => ?_⟩
  obtain ⟨c, e1, e2⟩ := h3 pos cv hc
  refine ⟨c, e1, ?_⟩
  rw [hh _ (ne_of e2 h (by unfold LamX.CodeO; simp))]
  exact e2
def pickS : Prom where
  n := 2
  pre := fun xs => ∃ m : Int, xs = [.bag, .d (.int m)] ∧ 0 < m ∧ m.natAbs.log2 < 8000
  post := fun xs z => ∀ m : Int, xs = [.bag, .d (.int m)] → ∃ r : Int, z = .d (.int r) ∧ 0 ≤ r ∧ r < m
theorem fng_pick {p0 p1 p2 p3 p4 p5 p6 p7 p8 p9 p10 p11 p12 p13 p14 p15 p16 p17 p18 p19 p20 p21 p22 p23 p24 p25 p26 p27 p28 p29 p30 p31 p32 p33 p34 p35 p36 p37 p38 p39 p40 p41 p42 p43 p44 p45 p46 p47 p48 p49 p50 p51 p52 p53 p54 p55 p56 p57 p58 p59 p60 p61 p62 p63 p64 p65 p66 p67 p68 p69 p70 p71 p72 p73 p74 p75 p76 p77 p78 p79 p80 p81 p82 p83 p84 p85 p86 p87 p88 p89 p90 p91 p92 p93 p94 p95 p96 p97 p98 p99 p100 p101 p102 p103 p104 p105 p106 p107 p108 p109 p110 p111 p112 p113 p114 p115 p116 p117 p118 p119 p120 p121 p122 p123 p124 p125 p126 p127 p128 p129 p130 p131 p132 p133 p134 p135 p136 p137 p138 p139 p140 p141 : Pos} (F : FunD K x x (defArgs st) (defBody st) (defScope st) [] [] f fd) (S : FnScope NPick ["bag", "many"] (defScope st)) (hb : defBody st = [(.If (.BoolOp .And [(.Compare (.Subscript (.Name "bag" p0) (.Constant (.int 2) 0 p1) p2) [.Eq] [(.Constant (.int 0) 0 p3)] p4), (.Compare (.Subscript (.Name "bag" p5) (.Constant (.int 1) 0 p6) p7) [.Lt] [(.Call (.Name "len" p8) [(.Subscript (.Name "bag" p9) (.Constant (.int 0) 0 p10) p11)] [] p12)] p13)] p14) [(.Assign [(.Name "cell" p15)] (.Subscript (.Subscript (.Name "bag" p16) (.Constant (.int 0) 0 p17) p18) (.Subscript (.Name "bag" p19) (.Constant (.int 1) 0 p20) p21) p22) p23), (.Assign [(.Subscript (.Name "bag" p24) (.Constant (.int 1) 0 p25) p26)] (.BinOp (.Subscript (.Name "bag" p27) (.Constant (.int 1) 0 p28) p29) .Add (.Constant (.int 1) 0 p30) p31) p32), (.Assign [(.Subscript (.Name "bag" p33) (.Constant (.int 3) 0 p34) p35)] (.BinOp (.Call (.Name "int" p36) [(.BinOp (.BinOp (.BinOp (.Subscript (.Name "bag" p37) (.Constant (.int 3) 0 p38) p39) .Mult (.Constant (.int 69621) 0 p40) p41) .Add (.BinOp (.Name "cell" p42) .Mult (.Constant (.int 40692) 0 p43) p44) p45) .Add (.Constant (.int 17) 0 p46) p47)] [] p48) .Mod (.Constant (.int 2147483629) 0 p49) p50) p51), (.If (.Compare (.Name "cell" p52) [.GtE] [(.BinOp (.Constant (.int 10) 0 p53) .Pow (.Constant (.int 18) 0 p54) p55)] p56) [(.Assign [(.Subscript (.Name "bag" p57) (.Constant (.int 2) 0 p58) p59)] (.Name "cell" p60) p61)] [] p62)] [] p63), (.If (.Compare (.Subscript (.Name "bag" p64) (.Constant (.int 2) 0 p65) p66) [.Gt] [(.Constant (.int 0) 0 p67)] p68) [(.Assign [(.Name "digit" p69)] (.BinOp (.Call (.Name "int" p70) [(.Subscript (.Name "bag" p71) (.Constant (.int 2) 0 p72) p73)] [] p74) .Mod (.Name "many" p75) p76) p77), (.Assign [(.Subscript (.Name "bag" p78) (.Constant (.int 2) 0 p79) p80)] (.BinOp (.Subscript (.Name "bag" p81) (.Constant (.int 2) 0 p82) p83) .FloorDiv (.Call (.Name "max" p84) [(.Constant (.int 2) 0 p85), (.Name "many" p86)] [] p87) p88) p89), (.Return (.some (.Name "digit" p90)) p91)] [] p92), (.Assign [(.Subscript (.Name "bag" p93) (.Constant (.int 4) 0 p94) p95)] (.BinOp (.Subscript (.Name "bag" p96) (.Constant (.int 4) 0 p97) p98) .Add (.Constant (.int 1) 0 p99) p100) p101), (.Assign [(.Name "number" p102)] (.BinOp (.Call (.Name "int" p103) [(.BinOp (.Call (.Name "int" p104) [(.BinOp (.Subscript (.Name "bag" p105) (.Constant (.int 3) 0 p106) p107) .Add (.BinOp (.Constant (.int 7919) 0 p108) .Mult (.Subscript (.Name "bag" p109) (.Constant (.int 4) 0 p110) p111) p112) p113)] [] p114) .Mult (.Constant (.int 48271) 0 p115) p116)] [] p117) .Mod (.Constant (.int 2147483647) 0 p118) p119) p120), (.Assign [(.Name "number" p121)] (.BinOp (.Call (.Name "int" p122) [(.BinOp (.Name "number" p123) .Mult (.BinOp (.BinOp (.Name "number" p124) .FloorDiv (.Constant (.int 1009) 0 p125) p126) .Add (.Constant (.int 69621) 0 p127) p128) p129)] [] p130) .Mod (.Constant (.int 2147483647) 0 p131) p132) p133), (.Return (.some (.BinOp (.Call (.Name "int" p134) [(.BinOp (.Name "number" p135) .FloorDiv (.Constant (.int 16) 0 p136) p137)] [] p138) .Mod (.Name "many" p139) p140)) p141)])
    (hL : ∀ x ∈ NPick, (defScope st).names.lookup x = some .local) (hG : lk (defScope st) "int" = some .globalImplicit ∧ lk (defScope st) "len" = some .globalImplicit ∧ lk (defScope st) "max" = some .globalImplicit)
    (m1 : mg "int" = none) (m2 : mg "len" = none) (m3 : mg "max" = none) : FnG P w K mg base 1 f fd ["bag", "many"] (spW K ec pickS) := by
  refine fng_of F S (fun vs H Q E ⟨S, bg, xs, h1, h2, ht, h3, h4, h5⟩ => ?_) fun cdv A outer s H vs Q E hg hr h => ?_
  · rw [h4.length, h5.1]; rfl
  obtain ⟨S, bg, xs, h1, h2, ht, h3, h4, h5, ⟨m, rfl, hm, hm2⟩, h7, h8⟩ := h
  obtain ⟨v, u, rfl, ⟨p, c, rfl, eb⟩, r⟩ := h4.two
  cases r
  refine ⟨_, pssU, ?_⟩
  rw [hb]
  obtain ⟨hpc, ns, i, j, k, l, e1, e2, e3⟩ := h2 p c eb
  refine pick_body (X := cxR P w K mg base NPick x (defScope st) f cdv A outer s H E) rfl hL rfl ⟨hG.1, m1⟩ ⟨hG.2.1, m2⟩ ⟨hG.2.2, m3⟩ hm hm2 hpc e1 e2 e3 fun r H' r0 r1 ex ⟨i', j', k', l', q1, q2⟩ => ?_
  refine h7 (.d (.int r)) (fun m' e => ?_) (.int r) H' ⟨fun a o n _ e => ?_, fun p' c' eb' b => ?_, fun t => tabs_at t e1 ex⟩ (Rp.int r)
  · cases e; exact ⟨r, rfl, r0, r1⟩
  · rw [ex a fun z => n ⟨c, by rw [z]; exact eb⟩]; exact e
  · have eb'' : bg = some (p', c') := eb'
    have eb0 : bg = some (p, c) := eb
    rw [eb0] at eb''; cases eb''
    exact ⟨hpc, ns, i', j', k', l', q1, by rw [ex c (Ne.symm hpc)]; exact e2, q2⟩
end
end R
namespace R
open PySem PySem.Spec PyProof.Rows L2
set_option autoImplicit false
def NBag : List Str := ["script", "mark", "cells", "cell"]
def spBag (K : PySem.W.Frag) : Sp := fun vs H Q E => ∃ (a : Addr) (ns : List Int) (m : Int), vs = [.ref a, .int m] ∧ SqL K H a (ns.map V.int) ∧ LamX.Tabs ((tabK K).map (·.2)) H ∧ ∀ (p c : Addr) (H' : Hp), No H p → (∀ b u, noT u → H b = some u → H' b = some u) → LamX.Tabs ((tabK K).map (·.2)) H' → BagOk H' p c → Q (.ref p) H'
section
variable {X : Cx} {H : Hp} {D : Ends} {sc : Scope}
theorem bag_body {p0 p1 p2 p3 p4 p5 p6 p7 p8 p9 p10 p11 p12 p13 p14 p15 p16 p17 p18 p19 p20 p21 p22 p23 p24 p25 p26 p27 p28 p29 p30 p31 : Pos} (hN : X.N = NBag) (hc : X.calm = true) (hL : ∀ x ∈ (["script", "mark", "cells"] : List Str), lk X.env.scope x = some .local) (hk : X.env.scope.kind = .function) (ok : BlkOk X.N X.env.scope sc [("cell", 3)])
    (hs : ∀ (s : Shared) (H : Hp) (C : Addr) (cl : List (Str × Addr)) (fp : List Addr), lk (Cx.bk X sc s H C cl fp).env.scope "cell" = some .local ∧ Gl (Cx.bk X sc s H C cl fp) "int" ∧ Gl (Cx.bk X sc s H C cl fp) "abs") (ha : (sc.names.any fun (n, k) => n == ("cells" : Str) && (k == .local || k == .cell)) = false) (hl : (p0.line == p17.line) = true)
    (gl : Gl X "len") (m1 : X.mg "int" = none) (m2 : X.mg "len" = none) (m3 : X.mg "abs" = none) {a : Addr} {ns : List Int} {m : Int} (hS : SqL X.K H a (ns.map V.int)) (ht : LamX.Tabs ((tabK X.K).map (·.2)) H)
    (tk : TkS X (fun _ => a) ⟨X.K, fun _ => False, H, none⟩ [none, some (.im (.int m)), none, none] [some (.ref a), some (.int m), none, none] H (fun _ _ => False))
    (hQ : ∀ (p c : Addr) (H' : Hp), No H p → (∀ b u, noT u → H b = some u → H' b = some u) → LamX.Tabs ((tabK X.K).map (·.2)) H' → BagOk H' p c → D.rt (.ref p) H') :
    tUSs X [(.Assign [(.Name "cells" p0)] (.ListComp (.BinOp (.Call (.Name "int" p1) [(.Call (.Name "abs" p2) [(.Call (.Name "int" p3) [(.Name "cell" p4)] [] p5)] [] p6)] [] p7) .Mod (.BinOp (.Constant (.int 10) 0 p8) .Pow (.Constant (.int 36) 0 p9) p10) p11) [⟨(.Name "cell" p12), (.Subscript (.Name "script" p13) (.Slice none (some (.Constant (.int 63) 0 p14)) none p15) p16), [], 0⟩] sc p17) p18), (.Return (some (.List [(.Name "cells" p19), (.Constant (.int 0) 0 p20), (.Constant (.int 0) 0 p21), (.BinOp (.Name "mark" p22) .Add (.BinOp (.Constant (.int 7) 0 p23) .Mult (.Call (.Name "len" p24) [(.Name "cells" p25)] [] p26) p27) p28), (.Constant (.int 0) 0 p29)] p30)) p31)] D [some (.ref a), some (.int m), none, none] H := by
  have nd : X.N.Nodup := by rw [hN]; decide
  have n0 : X.N[0]? = some ("script" : Str) := by rw [hN]; rfl
  have n1 : X.N[1]? = some ("mark" : Str) := by rw [hN]; rfl
  have n2 : X.N[2]? = some ("cells" : Str) := by rw [hN]; rfl
  have n3 : X.N[3]? = some ("cell" : Str) := by rw [hN]; rfl
  have l0 := hL "script" (by decide)
  have l1 := hL "mark" (by decide)
  have l2 := hL "cells" (by decide)
  let G : Gh := ⟨X.K, fun _ => False, H, none⟩
  let ρ : Rho := [none, some (.im (.int m)), none, none]
  have noow : ∀ {σ : St} {a : Addr}, ¬ G.av ρ σ a := fun {σ a} z => by
    rcases z with z | ⟨_, _, z, _⟩ | ⟨j, ds, z, _⟩
    · exact z
    · cases z
    · match j with
      | 0 => simp [ρ] at z
      | 1 => simp [ρ] at z
      | 2 => simp [ρ] at z
      | 3 => simp [ρ] at z
      | n + 4 => simp [ρ] at z
  have s0 : Sta G [some (.ref a), some (.int m), none, none] H ρ := by
    refine ⟨rfl, fun i d e => ?_, fun i ds e => ?_, fun i j ds es p e => ?_, fun i e => ?_, fun a u _ _ e => e, fun a z => z.elim, fun p c e => (by cases e), ht⟩
    · match i with
      | 0 => simp [ρ] at e
      | 1 => simp [ρ] at e; subst e; exact ⟨.int m, rfl, .int m⟩
      | 2 => simp [ρ] at e
      | 3 => simp [ρ] at e
      | n + 4 => simp [ρ] at e
    · match i with
      | 0 => simp [ρ] at e
      | 1 => simp [ρ] at e
      | 2 => simp [ρ] at e
      | 3 => simp [ρ] at e
      | n + 4 => simp [ρ] at e
    · match i with
      | 0 => simp [ρ] at e
      | 1 => simp [ρ] at e
      | 2 => simp [ρ] at e
      | 3 => simp [ρ] at e
      | n + 4 => simp [ρ] at e
    · match i with
      | 0 => simp [ρ] at e
      | 1 => simp [ρ] at e
      | 2 => simp [ρ] at e
      | 3 => simp [ρ] at e
      | n + 4 => simp [ρ] at e
  refine pssu (pss_cons psU pssU) ?_
  have sw : swapsWith (.ListComp (.BinOp (.Call (.Name "int" p1) [(.Call (.Name "abs" p2) [(.Call (.Name "int" p3) [(.Name "cell" p4)] [] p5)] [] p6)] [] p7) .Mod (.BinOp (.Constant (.int 10) 0 p8) .Pow (.Constant (.int 36) 0 p9) p10) p11) [⟨(.Name "cell" p12), (.Subscript (.Name "script" p13) (.Slice none (some (.Constant (.int 63) 0 p14)) none p15) p16), [], 0⟩] sc p17) (some (.Name "cells" p0)) p18.line X.env = pure true := sw_true hk l2 hl ha
  have gi : ∀ s H0 C cl fp, Gl (Cx.bk X sc s H0 C cl fp) "int" := fun s H0 C cl fp => (hs s H0 C cl fp).2.1
  have ga : ∀ s H0 C cl fp, Gl (Cx.bk X sc s H0 C cl fp) "abs" := fun s H0 C cl fp => (hs s H0 C cl fp).2.2
  refine psu (ps_setLc (i := 2) hc nd n2 l2 sw piU ok (g := (Pt.nm 3).g X.K) (fun s H C cl fp => pg_name nd n3 (.inl (hs s H C cl fp).1) (.inr (hs s H C cl fp).1)) (fun s H C cl fp => ptB s H C cl fp) (fun s H C cl fp => peB s H C cl fp)) ?_
  refine lc_go (pt := .nm 3) (ec := fun _ => a) (wt := wtYes) (fun j hj => hj) (fun _ _ _ _ _ => sts_nil) (fun s H0 C cl fp => sim_mod (sim_callT call_int1 c_int (gi s H0 C cl fp) m1 rfl (sima_cons (sim_callB call_abs c_abs (ga s H0 C cl fp) m3 rfl (sima_cons (sim_callT call_int1 c_int (gi s H0 C cl fp) m1 rfl (sima_cons (sim_var 3 n3 (.inl (hs s H0 C cl fp).1)) sima_nil)) sima_nil)) sima_nil)) (sim_pow sim_int sim_int))
    (G := G) (ρ := ρ) (Q := fun z => ∃ ls : List Int, z = .fr (ls.map .int) ∧ ls.length ≤ 63) rfl s0 ?_ ?_
  · refine piu (pi_seq peU) (peu (pe_slice sl_list (pe_var n0 (.inl l0)) po_none (po_some pe_int)) ?_)
    refine ⟨_, rfl, 63, rfl, a, ns.map V.int, rfl, hS, fun p hp => ⟨p, rfl, .inl ⟨⟨_, SqL.of upd_same⟩, ((ns.take 63).map .int), _, s0.new hp, walk_list, ?_, ?_⟩⟩⟩
    · have e : cutV (ns.map V.int) none (some 63) = (ns.take 63).map V.int := by
        unfold cutV
        rw [List.map_take]
        have e0 : HT.sIx (ns.map V.int).length 0 none = 0 := rfl
        rw [e0]
        have e1 : HT.sIx (ns.map V.int).length (ns.map V.int).length (some 63) = min 63 ns.length := by
          simp [HT.sIx]
        rw [e1]
        simp only [List.drop_zero, Nat.sub_zero]
        rw [← List.length_map (as := ns) V.int, ← List.take_eq_take_min]
      rw [e]
      exact .lst noow upd_same (rps_ints _)
    · refine ⟨⟨trivial, trivial⟩, fun i acc => ∃ ls : List Int, acc = ls.map .int ∧ ls.length = i, ⟨[], rfl, rfl⟩, fun i d acc hd ⟨ls, e1, e2⟩ => ?_, fun acc ⟨ls, e1, e2⟩ => ⟨ls, by rw [e1], ?_⟩⟩
      · have hi : i < ((ns.take 63).map PyData.int).length := (List.getElem?_eq_some_iff.mp hd).1
        have hi2 : i < 63 := by
          rw [List.length_map, List.length_take] at hi; omega
        rw [List.getElem?_map] at hd
        obtain ⟨n, hn, rfl⟩ : ∃ n : Int, (ns.take 63)[i]? = some n ∧ PyData.int n = d := by
          cases q : (ns.take 63)[i]? with
          | none => rw [q] at hd; cases hd
          | some n => rw [q] at hd; exact ⟨n, rfl, by simpa using hd⟩
        simp only [Pt.bind, wtYes, if_true, w2, waCons, wCB, wVar, wC, waNil, wMod, wPow, wI, bInt, bAbs, wipeR, ρ, W.clnK, W.dat, W.cln, List.set_cons_zero, List.set_cons_succ, List.getElem?_cons_zero, List.getElem?_cons_succ]
        subst e1
        refine ⟨⟨by decide, by decide, by decide⟩, by decide, ?_, ls ++ [_], by rw [List.map_append]; rfl, by simp [e2]⟩
        rw [List.length_map, e2]
        exact Nat.lt_trans hi2 (by decide)
      · rw [e2, List.length_map, List.length_take]; omega
  · intro v H1 x e1 r1 ⟨ls, ex, hls⟩
    subst ex
    have s1 := (s0.ext e1).set (i := 2) (r1.cln s0 rfl)
    refine (ss_one (s_ret (ec := fun _ => a) (sim_lst (sima_cons (sim_var 2 n2 (.inl l2)) (sima_cons sim_int (sima_cons sim_int (sima_cons (sim_add (sim_var 1 n1 (.inl l1)) (sim_mul sim_int (sim_callB call_len c_len gl m2 rfl (sima_cons (sim_var 2 n2 (.inl l2)) sima_nil)))) (sima_cons sim_int sima_nil)))))))).run G _ H1 _
      { nx := fun _ => False, rt := fun z => ∃ k : Int, z = .fr [.list (ls.map .int), .int 0, .int 0, .int k, .int 0] } D rfl s1 (tk.imp ?_) ⟨fun _ _ _ _ _ q => q.elim, fun v H2 z e r ⟨k, q⟩ => ?_, fun _ _ _ _ _ q => q.elim, fun _ _ _ _ _ q => q.elim⟩ ?_
    · intro cls d σ' H' ⟨_, _, _, _, _, _, q⟩; exact q.elim
    · subst q
      obtain ⟨p, vs, rfl, h1, h2, h3⟩ := r
      cases h3 with
      | cons q1 h3 =>
        cases h3 with
        | cons q2 h3 =>
          cases h3 with
          | cons q3 h3 =>
            cases h3 with
            | cons q4 h3 =>
              cases h3 with
              | cons q5 h3 =>
                cases h3
                cases q2; cases q3; cases q4; cases q5
                cases q1 with
                | lst na hc r =>
                  rename_i c xs
                  have := r.intsV
                  subst this
                  have pc : p ≠ c := fun z => na (.inr z.symm)
                  exact hQ p c H2 h1 (fun b u t eb => e.keep b u (fun ⟨_, z⟩ => by cases z) t eb) (e.tok ht) ⟨pc, ls, 0, 0, k, 0, h2, hc, by decide⟩
    · simp [wRet, wLst, waCons, waNil, wVar, wC, w2, wAdd, wMul, wI, wCB, bLen, ρ, W.dat, W.cln, clns]
      exact ⟨.inl ⟨by decide, by decide⟩, by decide⟩
variable {P : Program} {w : World} {K : PySem.W.Frag} {mg : Str → Option Value} {base : Heap} {k : Nat} {f : Addr} {x : Str} {st : Stmt} {fd : FuncData} {ec : Str → Addr}
theorem takes_c {N : List Str} {sc : Scope} {f : Addr} {cdv : Value} {A : Around} {outer : List Env} {s : Shared} {H : Hp} {E : XK} : Takes (cxR P w K mg base N x sc f cdv A outer s H E) fun cls d _ H => E cls d H :=
  takes_of (E₁ := fun e' s'' => L2.CX P w outer H s E e' s'') rfl rfl rfl rfl
theorem fng_bag {p0 p1 p2 p3 p4 p5 p6 p7 p8 p9 p10 p11 p12 p13 p14 p15 p16 p17 p18 p19 p20 p21 p22 p23 p24 p25 p26 p27 p28 p29 p30 p31 : Pos} (F : FunD K x x (defArgs st) (defBody st) (defScope st) [] [] f fd) (S : FnScope NBag ["script", "mark"] (defScope st)) (hb : defBody st = [(.Assign [(.Name "cells" p0)] (.ListComp (.BinOp (.Call (.Name "int" p1) [(.Call (.Name "abs" p2) [(.Call (.Name "int" p3) [(.Name "cell" p4)] [] p5)] [] p6)] [] p7) .Mod (.BinOp (.Constant (.int 10) 0 p8) .Pow (.Constant (.int 36) 0 p9) p10) p11) [⟨(.Name "cell" p12), (.Subscript (.Name "script" p13) (.Slice none (some (.Constant (.int 63) 0 p14)) none p15) p16), [], 0⟩] sc p17) p18), (.Return (some (.List [(.Name "cells" p19), (.Constant (.int 0) 0 p20), (.Constant (.int 0) 0 p21), (.BinOp (.Name "mark" p22) .Add (.BinOp (.Constant (.int 7) 0 p23) .Mult (.Call (.Name "len" p24) [(.Name "cells" p25)] [] p26) p27) p28), (.Constant (.int 0) 0 p29)] p30)) p31)])
    (hL : ∀ x ∈ (["script", "mark", "cells"] : List Str), lk (defScope st) x = some .local) (ok : BlkOk NBag (defScope st) sc [("cell", 3)])
    (hs : ∀ (f : Addr) (cdv : Value) (A : Around) (outer : List Env) (s' : Shared) (H' : Hp) (E : XK) (s : Shared) (H : Hp) (C : Addr) (cl : List (Str × Addr)) (fp : List Addr), lk (Cx.bk (cxR P w K mg base NBag x (defScope st) f cdv A outer s' H' E) sc s H C cl fp).env.scope "cell" = some .local ∧ Gl (Cx.bk (cxR P w K mg base NBag x (defScope st) f cdv A outer s' H' E) sc s H C cl fp) "int" ∧ Gl (Cx.bk (cxR P w K mg base NBag x (defScope st) f cdv A outer s' H' E) sc s H C cl fp) "abs")
    (ha : (sc.names.any fun (n, k) => n == ("cells" : Str) && (k == .local || k == .cell)) = false) (hl : (p0.line == p17.line) = true) (hg : lk (defScope st) "len" = some .globalImplicit)
    (m1 : mg "int" = none) (m2 : mg "len" = none) (m3 : mg "abs" = none) : FnG P w K mg base 1 f fd ["script", "mark"] (spBag K) := by
  refine fng_of F S (fun vs H Q E ⟨a, ns, m, e, _⟩ => by rw [e]; rfl) fun cdv A outer s H vs Q E hg' hr h => ?_
  obtain ⟨a, ns, m, rfl, hS, ht, hQ⟩ := h
  refine ⟨_, pssU, ?_⟩
  rw [hb]
  refine bag_body (X := cxR P w K mg base NBag x (defScope st) f cdv A outer s H E) rfl rfl hL S.kind ok (hs f cdv A outer s H E) ha hl hg m1 m2 m3 hS ht ?_ hQ
  exact tks_of takes_c fun c H' _ ⟨_, q⟩ => q.elim
/-! ### 16. the law -/
def spLaw (K : PySem.W.Frag) : Sp := fun vs H Q E => ∃ (a : Addr) (ns : List Int), vs = [.ref a] ∧ SqL K H a (ns.map V.int) ∧ LamX.Tabs ((tabK K).map (·.2)) H ∧ ∀ H', Q (.bl true) H'
/-- the law's slots behind its first statement -/
def lawR (N : List Str) : Rho := none :: some .bag :: List.replicate (N.length - 2) none
theorem fng_law {N : List Str} {q0 q1 q2 q3 q4 q5 : Pos} {i0 : Nat} {mark : Int} {rest : List Stmt} {wf : WS} {fb : Addr} {fdb : FuncData} (F : FunD K x x (defArgs st) (defBody st) (defScope st) [] [] f fd) (S : FnScope N ["script"] (defScope st))
    (hb : defBody st = (.Assign [.Name "bag" q0] (.Call (.Name "_law_bag" q1) [.Name "script" q2, .Constant (.int mark) i0 q3] [] q4) q5) :: rest) (hN0 : N[0]? = some ("script" : Str)) (hN1 : N[1]? = some ("bag" : Str)) (hN2 : 2 ≤ N.length) (hl0 : lk (defScope st) "script" = some .local) (hl1 : lk (defScope st) "bag" = some .local) (hlb : lk (defScope st) "_law_bag" = some .globalImplicit)
    (B : FnG P w K mg base 1 fb fdb ["script", "mark"] (spBag K)) (mb : mg "_law_bag" = some (.ref fb)) (kb : PySem.W.keepIn K (.ref fb) = true) (bb : Binds K fdb ["script", "mark"] []) (hk : 1 ≤ k)
    (hsim : ∀ (cdv : Value) (A : Around) (outer : List Env) (s : Shared) (H : Hp) (E : XK), (A.deeper (envOfC x (defScope st) s.heap.objs.size f cdv)).guards = some [] → Room k (A.deeper (envOfC x (defScope st) s.heap.objs.size f cdv)) → SimSs (cxR P w K mg base N x (defScope st) f cdv A outer s H E) ec rest wf)
    (hpure : wf (lawR N) { nx := fun _ => False, rt := fun z => z = .d (.bool true) }) : FnG P w K mg base (k + 1) f fd ["script"] (spLaw K) := by
  refine fng_of F S (fun vs H Q E ⟨a, ns, e, _⟩ => by rw [e]; rfl) fun cdv A outer s H vs Q E hg hr h => ?_
  obtain ⟨a, ns, rfl, hS, ht, hQ⟩ := h
  refine ⟨_, pssU, ?_⟩
  rw [hb]
  have hlN : (L2.start N [V.ref a]).length = N.length := by unfold L2.start; simp; omega
  have h0 : (L2.start N [V.ref a])[0]? = some (some (.ref a)) := start_at (vs := [V.ref a]) (i := 0) rfl
  refine pssu (pss_cons psU pssU) ?_
  have tkE : Takes (cxR P w K mg base N x (defScope st) f cdv A outer s H E) fun cls d _ H => False := takes_c.imp fun _ _ _ _ z => z.elim
  refine psu (ps_set (i := 1) S.nd hN1 (.inl hl1) (pe_g (E := fun _ _ _ _ => False) B hg (hr.mono hk) hlb mb kb bb (fun σ => passAt (W := fun _ _ _ _ => False) tkE σ) (pa_cons (pe_var hN0 (.inl hl0)) (pa_cons pe_int pa_nil))) rfl (.inl rfl)) ?_
  refine ⟨_, h0, a, ns, mark, rfl, hS, ht, fun p c H' hp hk' htab hbag => ?_⟩
  refine (hsim cdv A outer s H E hg hr).run ⟨K, fun _ => False, H', some (p, c)⟩ _ H' (lawR N) { nx := fun _ => False, rt := fun z => z = .d (.bool true) } _ rfl ?_ ?_ ⟨fun _ _ _ _ _ q => q.elim, fun v H2 z e r q => ?_, fun _ _ _ _ _ q => q.elim, fun _ _ _ _ _ q => q.elim⟩ hpure
  · have at_ : ∀ {i : Nat} {e : En}, (lawR N)[i]? = some (some e) → i = 1 ∧ e = .bag := fun {i e} h => by
      match i with
      | 0 => simp [lawR] at h
      | 1 => simp [lawR] at h; exact ⟨rfl, h.symm⟩
      | n + 2 =>
        unfold lawR at h
        rw [List.getElem?_cons_succ, List.getElem?_cons_succ, List.getElem?_replicate] at h
        split at h <;> cases h
    refine ⟨?_, fun i d e => ?_, fun i ds e => ?_, fun i j ds es p e => ?_, fun i e => ?_, fun a u _ _ e => e, fun a z => z.elim, fun p' c' e => ?_, htab⟩
    · rw [List.length_set, hlN]; unfold lawR; simp; omega
    · obtain ⟨_, z⟩ := at_ e; cases z
    · obtain ⟨_, z⟩ := at_ e; cases z
    · obtain ⟨_, z⟩ := at_ e; cases z
    · obtain ⟨rfl, _⟩ := at_ e
      exact ⟨p, c, rfl, List.getElem?_set_self (by rw [hlN]; omega)⟩
    · cases e; exact hbag
  · exact tks_of takes_c fun c H' _ ⟨_, q⟩ => q.elim
  · subst q
    cases r
    exact hQ H2
end
end R
namespace R
open PySem PySem.Spec PyProof.Rows L2
set_option autoImplicit false
/-! ### 17. a law's end -/
/-- an empty table -/
def emptyTab : Obj := { cls := .none, data := .fields #[] }
/-- what is known of the tables in the heap h, at the law's call -/
structure TabsAt (K : PySem.W.Frag) (h : Heap) : Prop where
  code : ∀ t ∈ tabK K, PySem.W.codeHdIn K t.1 t.2.1 = true
  out : ∀ t ∈ tabK K, K.lookup t.2.1 = none
  at_ : ∀ t ∈ tabK K, h.get? t.2.1 = some emptyTab
  uniq : ∀ t ∈ tabK K, ∀ u ∈ tabK K, t.2.1 = u.2.1 → t.2.2 = u.2.2
theorem TabsAt.keeps {K : PySem.W.Frag} {h h' : Heap} (t : TabsAt K h) (k : ∀ a o, h.get? a = some o → h'.get? a = some o) : TabsAt K h' := ⟨t.code, t.out, fun p hp => k _ _ (t.at_ p hp), t.uniq⟩
/-- the heap in which the script and the tables are tracked; the promise asks clear guards -/
theorem law_end {P : Program} {w : World} {K : PySem.W.Frag} {mg mb : Str → Option Value} {k : Nat} {fa a : Addr} {fd : FuncData} {x : Str} {s₁ : Shared} {vs : List Value} {ns : List Int}
    (KX : K.In s₁.heap) (hns : s₁.heap.Ns mainGlobals mg) (hb : s₁.heap.Ns builtinsNs mb) (hbb : ∀ x : Str, x ≠ "__name__" → mb x = bootBuiltins x) (hlim : s₁.heap.NoLimit) (hg : s₁.gens = #[]) (TA : TabsAt K s₁.heap)
    (hbm : ∃ (bm : Addr) (ob : Obj), mg "__builtins__" = some (.ref bm) ∧ bm ≠ builtinsNs ∧ s₁.heap.get? bm = some ob ∧ ob.cls = .type "module" ∧ ob.dict = some builtinsNs ∧ ob.data = .plain)
    (ha : s₁.heap.get? a = some { cls := .type "list", data := .seq vs.toArray }) (hi : IntsAre vs ns) (hl : ns.length ≤ sizeLine) (hr : Room k callerA)
    (hdig : s₁.heap.NoDigits) (F : ∀ base : Heap, K.In base → base.Ns mainGlobals mg → base.NoDigits → (∀ t ∈ tabK K, LamX.TabB base mg t.1 t.2.1) → FnG P w K mg base k fa fd [x] (spLaw K)) (hbind : ∀ (s : Shared) (u : Value), BindsTo s fd ⟨[u], []⟩ [(x, u)]) :
    codeAny (model P w) callerA (.call (.ref fa) ⟨[.ref a], []⟩) (fun r s' => r = .ok (.ret (.bool true)) ∧ OldK s₁.heap s'.heap ∧ s'.os = s₁.os ∧ AllBare s'.gens) s₁ := by
  have rv := vals_ints hi
  have lenV := hi.length
  let isT : Addr → Prop := fun b => ∃ t ∈ tabK K, t.2.1 = b
  have tGet : ∀ {b}, isT b → s₁.heap.get? b = some emptyTab := fun {b} ⟨t, ht, e⟩ => e ▸ TA.at_ t ht
  have tK : ∀ {b}, isT b → K.lookup b = none := fun {b} ⟨t, ht, e⟩ => e ▸ TA.out t ht
  have aT : ¬ isT a := fun z => by
    have q := tGet z
    rw [ha] at q; cases q
  have core : ∀ H : Hp, (∀ b, isT b → H b = some (.tbl #[])) → (∀ b, H b = none ∨ isT b ∨ ∃ o xs, H b = some (.frz o (.lst xs))) → SqL K H a (ns.map V.int) → HOk P w H s₁.heap → (∀ b, H b ≠ none → b = a ∨ isT b) → (H a ≠ none → K.lookup a = none) →
      codeAny (model P w) callerA (.call (.ref fa) ⟨[.ref a], []⟩) (fun r s' => r = .ok (.ret (.bool true)) ∧ OldK s₁.heap s'.heap ∧ s'.os = s₁.os ∧ AllBare s'.gens) s₁ := by
    intro H hH hO hS hok hA hK
    -- what is no list and no table is not tracked
    have clear : ∀ {b : Addr} {o : Obj}, s₁.heap.get? b = some o → o.data ≠ .seq vs.toArray → o.data ≠ .fields #[] → H b = none := fun {b o} e n1 n2 => by
      apply Classical.byContradiction
      intro q
      rcases hA b q with z | z
      · rw [z, ha] at e; cases e; exact n1 rfl
      · rw [tGet z] at e; cases e; exact n2 rfl
    have noA : ∀ {b : Addr} {o : Obj} {es : Array DictEntry} {ep : Nat}, s₁.heap.get? b = some o → o.data = .dict es ep → H b = none := fun {b o es ep} e d => clear e (by rw [d]; exact fun z => nomatch z) (by rw [d]; exact fun z => nomatch z)
    have nsK : ∀ {b : Addr} {m : Str → Option Value}, s₁.heap.Ns b m → (hidT s₁.heap H).Ns b m := fun {b m} ⟨o, es, ep, e, d, r⟩ => ⟨o, es, ep, hidT_get e (noA e d), d, r⟩
    have hKb : K.In (hidT s₁.heap H) := fun b o e => hidT_get (KX b o e) (by
      apply Classical.byContradiction
      intro q
      rcases hA b q with z | z
      · subst z; rw [hK q] at e; cases e
      · rw [tK z] at e; cases e)
    have hM : Mod K mg (hidT s₁.heap H) := ⟨hKb, nsK hns, ⟨mb, nsK hb, hbb⟩, let ⟨mc, h1, h2⟩ := hlim; ⟨mc, nsK h1, h2⟩⟩
    have nM : ∀ {b}, isT b → mainGlobals ≠ b := fun {b} z q => by
      obtain ⟨o, es, ep, e, hd, _⟩ := hns
      rw [q, tGet z] at e; cases e; cases hd
    have TB : ∀ t ∈ tabK K, LamX.TabB (hidT s₁.heap H) mg t.1 t.2.1 := fun t ht => by
      have z : isT t.2.1 := ⟨t, ht, rfl⟩
      refine ⟨PySem.W.codeHd_of_K hKb (TA.code t ht), ?_, nM z⟩
      obtain ⟨bm, ob, b1, b2, b3, b4, b5, b6⟩ := hbm
      have n1 : bm ≠ mainGlobals := fun q => by
        obtain ⟨o, es, ep, e, hd, _⟩ := hns
        rw [q, e] at b3; cases b3
        rw [hd] at b6; cases b6
      have n2 : bm ≠ t.2.1 := fun q => by
        rw [q, tGet z] at b3; cases b3; cases b6
      exact ⟨bm, ob, b1, b2, n1, n2, hidT_get b3 (clear b3 (by rw [b6]; exact fun z => nomatch z) (by rw [b6]; exact fun z => nomatch z)), b4, b5, b6⟩
    have tabs : LamX.Tabs ((tabK K).map (·.2)) H := fun p hp => by
      obtain ⟨t, ht, e⟩ := List.mem_map.mp hp
      rw [← e]
      exact LamX.TabS.nil (hH _ ⟨t, ht, rfl⟩)
    have e0 : Env0 P w K mg (hidT s₁.heap H) callerA [] s₁ H := ⟨rfl, hM, fun b o e => of_hidT e, Nat.le_of_eq (hidT_size _ _), trivial, fun b hb => absurd (show b ∈ ([] : List Addr) from hb) (by simp), hok, .of_eq hg⟩
    refine codeAny_mono ((F _ hKb (nsK hns) (let ⟨mc, h1, h2⟩ := hdig; ⟨mc, nsK h1, h2⟩) TB).go callerA [] s₁ H ⟨[.ref a], []⟩ [.ref a] [.ref a] (fun v _ => v = .bl true) (fun _ _ _ => False) rfl hr e0 (hbind s₁ (.ref a)) (.cons rfl .nil) ⟨a, ns, rfl, hS, tabs, fun _ => rfl⟩) fun r s' h => ?_
    cases r with
    | error e =>
      obtain ⟨_, _, _, _, _, _, _, _, _, _, _, _, z⟩ := h
      exact z.elim
    | ok fl =>
      cases fl with
      | next => exact False.elim h
      | brk => exact False.elim h
      | cont => exact False.elim h
      | ret u =>
        obtain ⟨v, H', os, bare, un, hok', r', q⟩ := h
        have q' : v = .bl true := q
        subst q'
        obtain rfl : u = Value.bool true := r'
        have stay : ∀ b o, ¬ isT b → s₁.heap.get? b = some o → s'.heap.get? b = some o := fun b o nb e => by
          cases q : H b with
          | none => exact un.keep b o e q (by intro z; exact absurd (show b ∈ ([] : List Addr) from z) (by simp)) (by simp)
          | some u =>
            rcases hO b with z | z | ⟨ob, xs, z⟩
            · rw [q] at z; cases z
            · exact absurd z nb
            · obtain ⟨e1, _⟩ := hok b _ z
              obtain ⟨e2, _⟩ := hok' b _ (un.frzs b ob _ z)
              rw [e] at e1; cases e1
              exact e2
        have more : ∀ b, isT b → ∃ ps : Array Value, s'.heap.get? b = some { cls := .none, data := .fields ps } := fun b z => by
          obtain ⟨ps, e⟩ := un.tbls b #[] (hH b z)
          exact ⟨_, hok' b _ e⟩
        refine ⟨rfl, ⟨fun b o e => ?_, fun b o e => ?_⟩, os, bare⟩
        · by_cases hb : isT b
          · obtain ⟨ps, e2⟩ := more b hb
            have e1 := tGet hb
            rw [e] at e1
            obtain ⟨t, ht, eb⟩ := hb
            have C : PySem.W.CodeHd s₁.heap t.1 t.2.1 := PySem.W.codeHd_of_K KX (TA.code t ht)
            have ic := (C.tab (TA.at_ t ht)).isCodeTable
            rw [eb] at ic
            cases e1
            exact .inr (.inl ⟨ic, rfl, #[], ps, rfl, by rw [Array.empty_append]; exact e2⟩)
          · exact .inl (stay b o hb e)
        · by_cases hb : isT b
          · obtain ⟨ps, e2⟩ := more b hb
            exact ⟨_, e2⟩
          · exact ⟨o, stay b o hb e⟩
  have dT : ∀ b, isT b ∨ ¬ isT b := fun b => Classical.em _
  let HT : Hp := fun b => @ite _ (isT b) (Classical.propDecidable _) (some (.tbl #[])) none
  have HTt : ∀ {b}, isT b → HT b = some (.tbl #[]) := fun z => if_pos z
  have HTn : ∀ {b}, ¬ isT b → HT b = none := fun z => if_neg z
  have tOk : ∀ b (u : HO), isT b → some (HO.tbl #[]) = some u → ∀ H, ObjOk P w H s₁.heap b u := fun b u z e H => by
    cases e
    exact tGet z
  cases hk : K.lookup a with
  | some o =>
    have e := KX a o hk
    rw [ha] at e
    cases e
    refine core HT (fun b => HTt) (fun b => (dT b).elim (fun z => .inr (.inl z)) fun z => .inl (HTn z)) (.inr ⟨_, vs.toArray, _, hk, rfl, rfl, rfl, by rw [List.size_toArray, lenV]; exact hl, by simpa using rv⟩) (fun b u z => ?_) (fun b z => ?_) fun z => absurd (HTn aT) z
    · rcases dT b with q | q
      · exact tOk b u q ((HTt q).symm.trans z) _
      · rw [HTn q] at z; cases z
    · rcases dT b with q | q
      · exact .inr q
      · exact absurd (HTn q) z
  | none =>
    let H0 : Hp := fun b => if b = a then some (.frz { cls := .type "list", data := .seq vs.toArray } (.lst (ns.map V.int))) else HT b
    have no : ∀ {b : Addr}, b ≠ a → H0 b = HT b := fun h => if_neg h
    have tne : ∀ {b}, isT b → b ≠ a := fun z q => aT (q ▸ z)
    refine core H0 (fun b z => (no (tne z)).trans (HTt z)) (fun b => ?_) (.inl (.inr ⟨{ cls := .type "list", data := .seq vs.toArray }, if_pos rfl⟩)) (fun b u z => ?_) (fun b z => ?_) fun _ => hk
    · by_cases hb : b = a
      · exact .inr (.inr ⟨_, _, if_pos hb⟩)
      · rcases dT b with q | q
        · exact .inr (.inl q)
        · exact .inl ((no hb).trans (HTn q))
    · by_cases hb : b = a
      · have z' := (if_pos hb).symm.trans z
        cases z'
        subst hb
        exact ⟨ha, by rw [List.length_map]; exact hl, vs, _, rv, ha⟩
      · rw [no hb] at z
        rcases dT b with q | q
        · exact tOk b u q ((HTt q).symm.trans z) _
        · rw [HTn q] at z; cases z
    · by_cases hb : b = a
      · exact .inl hb
      · rw [no hb] at z
        rcases dT b with q | q
        · exact .inr q
        · exact absurd (HTn q) z
theorem walk_law {l : PySem.W.OpenLaw} {n k : Nat} {q : Program} {loose : List Str} {XP : (Str → Option Value) → Heap → Prop} {YP : World → Heap → Prop} {d : DefRec} {x : Str}
    (hn : l.most = some n) (hn2 : n ≤ sizeLine) (hdf : d.params.defaults = []) (hr : Room k callerA)
    (F : ∀ (w : World) (mg : Str → Option Value) (fa : Addr) (h : Heap), YP w h → h.Ns mainGlobals mg → mg d.name = some (.ref fa) →
      ∃ (K : PySem.W.Frag) (fd : FuncData), K.In h ∧ TabsAt K h ∧ (∀ (s : Shared) (u : Value), BindsTo s fd ⟨[u], []⟩ [(x, u)]) ∧ ∀ base : Heap, K.In base → base.Ns mainGlobals mg → base.NoDigits → (∀ t ∈ tabK K, LamX.TabB base mg t.1 t.2.1) → FnG l.prog w K mg base k fa fd [x] (spLaw K)) :
    PySem.W.WalkO q loose XP YP l.row.toRowW d [] (fun f vs => PySem.call f vs) := by
  refine Att.attach_call hn hdf fun w s₀ s₁ mg mb fa o pm cd doc a vs ns G Y ho hd hcd hmg hobj hints hlen hg => ?_
  obtain ⟨K, fd, KX, TA, hb, hF⟩ := F w mg fa _ Y G.T.g hmg
  exact law_end KX G.T.g G.T.b G.T.builtins G.T.nolimit hg TA G.T.bmain hobj hints (Nat.le_trans hlen hn2) hr G.T.nodigits hF hb
/-! ### 17b. constants of the module, by data -/
mutual
/-- the value v of the written part is the data d -/
def conB (K : PySem.W.Frag) : D → Value → Bool
  | .none, .none => true
  | .bool b, .bool c => b == c
  | .int i, .int j _ => decide (i = j)
  | .str x, .str y _ => decide (x = y)
  | .tuple ds, .ref a => (match K.lookup a with
    | some ⟨.type c, _, .seq its _, _⟩ => decide (c = "tuple") && (decide (its.size ≤ sizeLine) && conBs K ds its.toList)
    | _ => false)
  | .dict [(.str x, .none)], .ref a => decide (a = He.ga K x)
  | _, _ => false
def conBs (K : PySem.W.Frag) : List D → List Value → Bool
  | [], [] => true
  | d :: ds, v :: vs => conB K d v && conBs K ds vs
  | _, _ => false
end
mutual
theorem conB_ok {K : PySem.W.Frag} {Av : Addr → Prop} {H : Hp} : ∀ (d : D) (v : Value), conB K d v = true → ∃ x, RelV x v ∧ Rp K Av H x d
  | .none, v, h => by cases v <;> simp only [conB] at h <;> first | exact ⟨.non, rfl, .non⟩ | cases h
  | .bool b, v, h => by
    cases v with
    | bool c => simp only [conB] at h; exact ⟨.bl c, rfl, by rw [eq_of_beq h]; exact .bl c⟩
    | _ => simp only [conB] at h; cases h
  | .int i, v, h => by
    cases v with
    | int j t => simp only [conB] at h; exact ⟨.int j, ⟨t, rfl⟩, by rw [of_decide_eq_true h]; exact .int j⟩
    | _ => simp only [conB] at h; cases h
  | .str i, v, h => by
    cases v with
    | str j t => simp only [conB] at h; exact ⟨.str j, ⟨t, rfl⟩, by rw [of_decide_eq_true h]; exact .str j⟩
    | _ => simp only [conB] at h; cases h
  | .list ds, v, h => by cases v <;> simp only [conB] at h <;> cases h
  | .tuple ds, v, h => by
    cases v with
    | ref a =>
      simp only [conB] at h
      split at h
      · rename_i c od its n osl lk
        simp only [Bool.and_eq_true, decide_eq_true_eq] at h
        obtain ⟨xs, r1, r2⟩ := conBs_ok ds its.toList h.2.2
        exact ⟨.ref a, rfl, .tup (.inr ⟨_, its, n, lk, by rw [h.1], rfl, h.2.1, r1⟩) r2⟩
      · cases h
    | _ => simp only [conB] at h; cases h
  | .dict kvs, v, h => by
    match kvs, v, h with
    | [(.str x, .none)], .ref a, h =>
      simp only [conB, decide_eq_true_eq] at h
      exact ⟨.ref a, rfl, by rw [h]; exact .fn x⟩
theorem conBs_ok {K : PySem.W.Frag} {Av : Addr → Prop} {H : Hp} : ∀ (ds : List D) (vs : List Value), conBs K ds vs = true → ∃ xs, Vals xs vs ∧ Rps K Av H xs ds
  | [], [], _ => ⟨[], .nil, .nil⟩
  | [], _ :: _, h => by simp only [conBs] at h; cases h
  | _ :: _, [], h => by simp only [conBs] at h; cases h
  | d :: ds, v :: vs, h => by
    simp only [conBs, Bool.and_eq_true] at h
    obtain ⟨x, a1, a2⟩ := conB_ok d v h.1
    obtain ⟨xs, b1, b2⟩ := conBs_ok ds vs h.2
    exact ⟨x :: xs, .cons a1 b1, .cons a2 b2⟩
end
/-- the module's name x stands for the data d -/
def conG (K : PySem.W.Frag) (p : Str × D) : Bool := match PySem.W.nsIn K mainGlobals p.1 with
  | some (some u) => conB K p.2 u
  | _ => false
/-! ### 17c. the Hook -/
def isTab : Option Obj → Bool
  | some ⟨.none, none, .fields vs, sl⟩ => vs.isEmpty && sl.isEmpty
  | _ => false
theorem isTab_ok {o : Option Obj} (h : isTab o = true) : o = some emptyTab := by
  unfold isTab at h
  split at h
  · rename_i vs sl
    simp only [Bool.and_eq_true, Array.isEmpty_iff] at h
    rw [h.1, h.2]; rfl
  · cases h
def tabB (K : PySem.W.Frag) (g : Addr → Option Obj) : Bool := (tabK K).all fun t => PySem.W.codeHdIn K t.1 t.2.1 && ((K.lookup t.2.1).isNone && (isTab (g t.2.1) && (tabK K).all fun u => decide (t.2.1 ≠ u.2.1) || decide (t.2.2 = u.2.2)))
theorem tabB_ok {K : PySem.W.Frag} {h : Heap} (e : tabB K h.get? = true) : TabsAt K h := by
  unfold tabB at e
  rw [List.all_eq_true] at e
  refine ⟨fun t ht => ?_, fun t ht => ?_, fun t ht => ?_, fun t ht u hu q => ?_⟩
  · have := e t ht; simp only [Bool.and_eq_true] at this; exact this.1
  · have := e t ht; simp only [Bool.and_eq_true, Option.isNone_iff_eq_none] at this; exact this.2.1
  · have := e t ht; simp only [Bool.and_eq_true] at this; exact isTab_ok this.2.2.1
  · have := e t ht
    simp only [Bool.and_eq_true, List.all_eq_true, Bool.or_eq_true, decide_eq_true_eq] at this
    exact (this.2.2.2 u hu).resolve_left fun z => z q
def asR (g : Addr → Option Obj) (n : Nat) : List Addr := (He.asD g n).filter fun a => !isTab (g a)
abbrev AlR : Type := Bool × He.AlD
def obsR (n : Nat) (fx : List (Str × D)) (fa : List He.Fa) (fn : List He.DefD) (g : Addr → Option Obj) : AlR :=
  ((fx.all fun p => conG (He.frG g (asR g n)) p) && tabB (He.frG g (asR g n)) g, He.obsD fa fn (He.frG g (asR g n)))
structure SaysR (fx : List (Str × D)) (fa : List He.Fa) (fn : List He.DefD) (K : PySem.W.Frag) (h : Heap) : Prop where
  con : ∀ p ∈ fx, conG K p = true
  tab : TabsAt K h
  d : He.SaysD fa fn K
def hookR (n : Nat) (fx : List (Str × D)) (fa : List He.Fa) (fn : List He.DefD) : PySem.W.Hook where
  α := AlR
  obs := fun s => obsR n fx fa fn s.heap.get?
  val := fun _ => (true, He.valD fn)
  says := fun _ h => ∃ K : PySem.W.Frag, K.In h ∧ SaysR fx fa fn K h
  of := fun _ s e => by
    have e1 : ((fx.all fun p => conG (He.frG s.heap.get? (asR s.heap.get? n)) p) && tabB (He.frG s.heap.get? (asR s.heap.get? n)) s.heap.get?) = true := congrArg (fun z : AlR => z.1) e
    have e2 : He.obsD fa fn (He.frG s.heap.get? (asR s.heap.get? n)) = He.valD fn := congrArg (fun z : AlR => z.2) e
    rw [Bool.and_eq_true, List.all_eq_true] at e1
    exact ⟨_, He.frG_in, e1.1, tabB_ok e1.2, e2⟩
  keeps := fun _ _ _ ⟨K, hK, c⟩ k => ⟨K, PySem.W.Frag.In.keeps hK k, c.con, c.tab.keeps k, c.d⟩
theorem obsR_eq {n : Nat} {fx : List (Str × D)} {fa : List He.Fa} {fn : List He.DefD} {g : Addr → Option Obj} {s : Shared} (h : ∀ a, g a = s.heap.get? a) : obsR n fx fa fn g = (hookR n fx fa fn).obs s := by
  have e : g = s.heap.get? := funext h
  rw [e] <;> rfl
end R
namespace R
open PySem PySem.Spec PyProof.Rows L2
set_option autoImplicit false
/-! ### 18. the facts of a head, the defs by name -/
structure Ev (fx : List (Str × D)) (fa : List He.Fa) (fn : List He.DefD) (K : PySem.W.Frag) (mg : Str → Option Value) (base : Heap) : Prop where
  c : He.SaysD fa fn K
  glo : ∀ {x : Str}, (He.Fa.glo x).ok K = true → mg x = some (.ref (He.ga K x))
  free : ∀ {x : Str}, (He.Fa.free x).ok K = true → mg x = none
  con : ∀ p ∈ fx, ∃ u, mg p.1 = some u ∧ conB K p.2 u = true
  tb : ∀ t ∈ tabK K, LamX.TabB base mg t.1 t.2.1
  uq : ∀ t ∈ tabK K, ∀ u ∈ tabK K, t.2.1 = u.2.1 → t.2.2 = u.2.2
  dg : base.NoDigits
section
variable {fx : List (Str × D)} {fa : List He.Fa} {fn : List He.DefD} {K : PySem.W.Frag} {mg : Str → Option Value} {h base : Heap}
theorem Ev.of (X : K.In h) (G : h.Ns mainGlobals mg) (c : SaysR fx fa fn K h) (dg : base.NoDigits) (tb : ∀ t ∈ tabK K, LamX.TabB base mg t.1 t.2.1) : Ev fx fa fn K mg base :=
  ⟨c.d, He.glo_ok X G, He.free_ok X G, fun p hp => by
    have q := c.con p hp
    unfold conG at q
    split at q
    · rename_i u e
      exact ⟨u, PySem.W.mg_of X G e, q⟩
    · exact absurd q (by simp), tb, c.tab.uniq, dg⟩
theorem Ev.g (e : Ev fx fa fn K mg base) (i : Nat) {x : Str} (h : fa[i]? = some (.glo x) := by rfl) : mg x = some (.ref (He.ga K x)) := e.glo (e.c.fact i h)
theorem Ev.f (e : Ev fx fa fn K mg base) (i : Nat) {x : Str} (h : fa[i]? = some (.free x) := by rfl) : mg x = none := e.free (e.c.fact i h)
theorem Ev.i (e : Ev fx fa fn K mg base) (i : Nat) {x : Str} {d : D} (h : fx[i]? = some (x, d) := by rfl) : ∃ u, mg x = some u ∧ conB K d u = true := e.con _ (List.mem_of_getElem? h)
theorem Ev.x (e : Ev fx fa fn K mg base) (i : Nat) {x : Str} (h : fa[i]? = some (.exc x) := by rfl) : PySem.W.excIn K (He.ga K x) He.veBase "ValueError.__new__" = true ∧ PySem.W.keepIn K (.ref (He.ga K x)) = true ∧ PySem.W.subIn K (.ref (He.ga K x)) (.type "BaseException") = some true ∧
    PySem.W.typeIn K (.ref (He.ga K x)) = some (.type "type") := He.exc_ok (e.c.fact i h)
theorem Ev.m (e : Ev fx fa fn K mg base) (i : Nat) {x y : Str} {b : Bool} (h : fa[i]? = some (.exm x y b) := by rfl) : PySem.W.exmOne K (.ref (He.ga K x)) (.ref (He.ga K y)) = some b := He.exm_ok (e.c.fact i h)
/-- the def by its name keeps a promise -/
structure Fn (P : Program) (w : World) (K : PySem.W.Frag) (mg : Str → Option Value) (base : Heap) (k : Nat) (x : Str) (ps : List Str) (sp : Sp) : Prop where
  m : mg x = some (.ref (He.ga K x))
  F : ∃ fd, FnG P w K mg base k (He.ga K x) fd ps sp ∧ PySem.W.keepIn K (.ref (He.ga K x)) = true ∧ Binds K fd ps []
variable {P : Program} {w : World} {base : Heap} {k : Nat} {x : Str} {ps : List Str} {sp : Sp} {st : Stmt}
theorem Fn.of {y : Str} (e : Ev fx fa fn K mg base) (i j : Nat) (hd : fn[i]? = some ⟨(x, none), y, y, defArgs st, defBody st, defScope st, [], []⟩) (hg : fa[j]? = some (.glo x))
    (hb : ∀ (kV doc pm : Value) (an : Option Addr) (cdv ct : Value) (us : List Value), us.length = ps.length → bindArgs (PySem.W.fnOf y y (defArgs st) (defBody st) (defScope st) .none kV doc pm an cdv ct) ⟨us, []⟩ = pure (ps.zip us))
    (hF : ∀ fd, FunD K y y (defArgs st) (defBody st) (defScope st) [] [] (He.ga K x) fd → FnG P w K mg base k (He.ga K x) fd ps sp) : Fn P w K mg base k x ps sp := by
  obtain ⟨fd, F⟩ := e.c.def_ i hd
  have F' : FunD K y y (defArgs st) (defBody st) (defScope st) [] [] (He.ga K x) fd := F
  exact ⟨e.g j hg, fd, hF fd F', F'.kp, F'.bindsN hb⟩
end
section
variable {X : Cx} {a b : Expr} {wa wb : WE} {pos : Pos}
theorem sim_callF {k j : Nat} {ps : List Str} {x : Str} {p : Pos} {e : Expr} {es : List Expr} {ws : WA} {Φ : Prom} (h : Fn X.prog X.w X.K X.mg X.base j x ps (spW X.K (He.ga X.K) Φ)) (g : X.A.guards = some []) (hr : Room k X.A) (hj : j ≤ k) (hg : Gl X x)
    (ha : SimA X (He.ga X.K) (e :: es) ws) (hdb : (x == ("__debug__" : Str)) = false := by decide) (he : starEach (e :: es) X.env = (false, eval e X.env) :: starEach es X.env := by rfl)
    (hpl : (backTo pos (starEach es X.env)).any (·.1) = false := by rfl) : SimE X (He.ga X.K) (.Call (.Name x p) (e :: es) [] pos) (wCall Φ ws) := by
  obtain ⟨fd, F, hk, hb⟩ := h.F
  exact sim_call F g (hr.mono hj) hg h.m hk hb ha hdb he hpl
/-- a constant of the module -/
theorem sim_con {ec : Str → Addr} {x : Str} {d : D} {pos : Pos} (hg : Gl X x) (hm : ∃ u, X.mg x = some u ∧ conB X.K d u = true) (hd : (x == ("__debug__" : Str)) = false := by decide) : SimE X ec (.Name x pos) (wC d) := by
  obtain ⟨u, hm, hc⟩ := hm
  refine ⟨fun G σ H ρ Q E hK s tk h => ?_⟩
  obtain ⟨v, r1, r2⟩ := conB_ok (Av := G.av ρ σ) (H := H) d u hc
  exact peu (pe_glob hg hm r1 hd) ⟨.d d, Ext.refl, show Rp G.K _ _ _ _ by rw [hK]; exact r2, h⟩
/-! ### 19. more rules -/
theorem r_or {r r' : R2} {v v' : W → W → (W → Prop) → Prop} (h : SimR2 X r v) (h' : SimR2 X r' v') : SimR2 X (fun x y H Q => r x y H Q ∨ r' x y H Q) (fun x y Q => v x y Q ∨ v' x y Q) := by
  intro G ρ σ H Ha Hb u u' x y Q Q' hK s rx ry hh k
  rcases hh with hh | hh
  · exact .inl (h G ρ σ H Ha Hb u u' x y Q Q' hK s rx ry hh k)
  · exact .inr (h' G ρ σ H Ha Hb u u' x y Q Q' hK s rx ry hh k)
variable {ec : Str → Addr}
/-- a target of any form -/
def wAsgP (pt : Pt) (wa : WE) : WS := fun ρ O => wa ρ (fun z => z.clnK fun d => pt.bind d ρ O.nx) (fun c => O.ex c ρ)
theorem s_asgP {tg : Expr} {pt : Pt} (hg : PG X tg (pt.g X.K)) (ha : SimE X ec a wa) (hs : swapsWithSole [tg] a pos.line X.env = pure false := by rfl) (hw : swappedStores [tg] a X.env = pure none := by rfl)
    (h1 : (assignEach [tg] X.env).map (·.2) = [assign tg X.env] := by rfl) : SimS X ec (.Assign [tg] a pos) (wAsgP pt wa) := by
  refine ⟨fun G σ H ρ O D hK s t en h => psu (ps_asg peU hg hs hw h1) ((ha.at hK s t h).mono fun v H' ⟨x, e, r, q⟩ => ?_)⟩
  unfold W.clnK at q
  split at q
  · rename_i d ed
    exact bind_go hK (s.ext e) (r.cln s ed) q fun σ' ρ' s' g _ n => en.nx σ' H' ρ' s' ((Go.ext e).trans g) n
  · exact q.elim
theorem r_mulA : SimR2 X (rI MulOk fun i j => .int (i * j)) wMul := r_int
def wAddA (x y : W) (Q : W → Prop) : Prop := wAdd x y Q ∨ wAddT x y Q
def wMulA (x y : W) (Q : W → Prop) : Prop := wMul x y Q ∨ wRep x y Q ∨ wRepT x y Q
theorem sim_addA (ha : SimE X ec a wa) (hb : SimE X ec b wb) : SimE X ec (.BinOp a .Add b pos) (w2 wAddA wa wb) := sim_bin (op_addA.or op_catA) (r_or r_add r_addT) ha hb
theorem sim_mulA (ha : SimE X ec a wa) (hb : SimE X ec b wb) : SimE X ec (.BinOp a .Mult b pos) (w2 wMulA wa wb) := sim_bin (op_mulA.or (op_rep.or op_repT)) (r_or r_mulA (r_or r_rep r_repT)) ha hb
section
variable {k : Nat} (hr : Room k X.A)
include hr
theorem Room.u64 : X.A.units + 64 < cLine := by have := hr.un; omega
theorem Room.u200 : X.A.units + 200 < cLine := by have := hr.un; omega
theorem oEq : OpR X (compareOp .Eq) (fun x y H Q => rEq x y H Q ∨ rEqD X.K x y H Q) := op_eq.or (op_eqD (Room.u64 hr))
theorem oNe : OpR X (compareOp .NotEq) (fun x y H Q => rNe x y H Q ∨ rNeD X.K x y H Q) := op_ne.or (op_neD (Room.u64 hr))
theorem c_reprR (hg : X.A.guards = some []) : CallR X (.builtin "repr") (rRepr X.K) := call_repr_data (Room.u200 hr) hg
end
def wLtI : W → W → (W → Prop) → Prop := wI (fun _ _ => True) fun i j => .bool (decide (i < j))
def wLeI : W → W → (W → Prop) → Prop := wI (fun _ _ => True) fun i j => .bool (decide (i ≤ j))
def wGtI : W → W → (W → Prop) → Prop := wI (fun _ _ => True) fun i j => .bool (decide (j < i))
def wGeI : W → W → (W → Prop) → Prop := wI (fun _ _ => True) fun i j => .bool (decide (j ≤ i))
theorem r_ltI : SimR2 X (rI0 fun i j => .bl (decide (i < j))) wLtI := r_cmp
theorem r_leI : SimR2 X (rI0 fun i j => .bl (decide (i ≤ j))) wLeI := r_cmp
theorem r_gtI : SimR2 X (rI0 fun i j => .bl (decide (j < i))) wGtI := r_cmp
theorem r_geI : SimR2 X (rI0 fun i j => .bl (decide (j ≤ i))) wGeI := r_cmp
theorem passes_c {P : Program} {w : World} {K : PySem.W.Frag} {mg : Str → Option Value} {base : Heap} {N : List Str} {x : Str} {sc : Scope} {f : Addr} {cdv : Value} {A : Around} {outer : List Env} {s : Shared} {H : Hp} {E : XK} :
    PassesOwn (model (cxR P w K mg base N x sc f cdv A outer s H E).prog (cxR P w K mg base N x sc f cdv A outer s H E).w) (cxR P w K mg base N x sc f cdv A outer s H E).A (cxR P w K mg base N x sc f cdv A outer s H E).env (cxR P w K mg base N x sc f cdv A outer s H E).xe :=
  passes_of (X := cxR P w K mg base N x sc f cdv A outer s H E) (K := fun e s'' => L2.CX P w outer H s E e s'') (E₁ := fun e' s'' => L2.CX P w outer H s E e' s'') rfl
theorem s_appL (i : Nat) {x : Str} {p p2 p3 : Pos} (ha : SimE X ec a wa) (hN : X.N[i]? = some x := by rfl) (hv : Vis X.env.scope x := by first | exact Or.inl rfl | exact Or.inr (Or.inl rfl)) (hd : (x == ("__debug__" : Str)) = false := by decide) (hcd : (x == ("__classdict__" : Str)) = false := by decide)
    (hbase : attributeBase (.Name x p) "append" X.env (eval (.Name x p) X.env) = eval (.Name x p) X.env := by rfl)
    (hfew : ((backTo p3 (starEach [a] X.env)).all (fun x => !x.1) && (backToKw p3 (keywordEach [] X.env)).all (fun x => x.1.isSome) && decide ([a].length + ([] : List Keyword).length + (if ([] : List Keyword).isEmpty then 0 else 1) < 30)) = true := by rfl)
    (hline : (p2.endLine == p3.line) = true := by rfl) (hs : starEach [a] X.env = (false, eval a X.env) :: starEach [] X.env := by rfl) (hsw : swapsWith (.Call (.Attribute (.Name x p) "append" p2) [a] [] p3) none pos.line X.env = pure false := by rfl) :
    SimS X ec (.Expr (.Call (.Attribute (.Name x p) "append" p2) [a] [] p3) pos) (wApp i wa) :=
  s_app (fun h => pe_bm PySem.F.plainAttrs_list PySem.F.slot_list_append PySem.F.type_list_append mt_append (pe_var hN hv hd hcd) (pa_cons h pa_nil hs) hbase hfew hline hs rfl) ha hsw
theorem s_extL (i : Nat) {x : Str} {p p2 p3 : Pos} (ha : SimE X ec a wa) (hN : X.N[i]? = some x := by rfl) (hv : Vis X.env.scope x := by first | exact Or.inl rfl | exact Or.inr (Or.inl rfl)) (hd : (x == ("__debug__" : Str)) = false := by decide) (hcd : (x == ("__classdict__" : Str)) = false := by decide)
    (hbase : attributeBase (.Name x p) "extend" X.env (eval (.Name x p) X.env) = eval (.Name x p) X.env := by rfl)
    (hfew : ((backTo p3 (starEach [a] X.env)).all (fun x => !x.1) && (backToKw p3 (keywordEach [] X.env)).all (fun x => x.1.isSome) && decide ([a].length + ([] : List Keyword).length + (if ([] : List Keyword).isEmpty then 0 else 1) < 30)) = true := by rfl)
    (hline : (p2.endLine == p3.line) = true := by rfl) (hs : starEach [a] X.env = (false, eval a X.env) :: starEach [] X.env := by rfl) (hsw : swapsWith (.Call (.Attribute (.Name x p) "extend" p2) [a] [] p3) none pos.line X.env = pure false := by rfl) :
    SimS X ec (.Expr (.Call (.Attribute (.Name x p) "extend" p2) [a] [] p3) pos) (wExtend i wa) :=
  s_extend (fun h => pe_bm PySem.F.plainAttrs_list PySem.F.slot_list_extend PySem.F.type_list_extend mt_extend (pe_var hN hv hd hcd) (pa_cons h pa_nil hs) hbase hfew hline hs rfl) ha hsw
end
end R
namespace R
open PySem PySem.Spec PyProof.Rows L2
set_option autoImplicit false
/-! ### 21. plain facts -/
theorem atI_nn {α : Type} {xs : List α} {i : Int} (h0 : 0 ≤ i) (h1 : i < xs.length) : L2.atI xs i = xs[i.toNat]? := by
  unfold L2.atI ixN
  rw [if_pos h0, if_pos h1]
  rfl
theorem atI_nat {α : Type} {xs : List α} {n : Nat} (h1 : n < xs.length) : L2.atI xs (n : Int) = xs[n]? := by
  rw [atI_nn (by omega) (by omega)]
  simp
theorem atI_get {α : Type} {xs : List α} {i : Int} (h0 : 0 ≤ i) (h1 : i < xs.length) : ∃ (h : i.toNat < xs.length), L2.atI xs i = some xs[i.toNat] := by
  have h : i.toNat < xs.length := by omega
  exact ⟨h, by rw [atI_nn h0 h1]; simp [h]⟩
theorem atI_mem {α : Type} {xs : List α} {i : Int} (h0 : 0 ≤ i) (h1 : i < xs.length) : ∃ d ∈ xs, L2.atI xs i = some d := by
  obtain ⟨h, e⟩ := atI_get h0 h1
  exact ⟨_, List.getElem_mem h, e⟩
theorem atI_neg {α : Type} {xs : List α} {k : Nat} (h0 : 0 < k) (h1 : k ≤ xs.length) : L2.atI xs (-(k : Int)) = xs[xs.length - k]? := by
  unfold L2.atI ixN
  rw [if_neg (by omega), if_pos (by omega)]
  simp only [Option.bind_some]
  congr 1
  omega
theorem small_log2 {n k : Nat} (h : n < 2 ^ 1000) (hk : 1000 ≤ k) : n.log2 < k := Nat.lt_of_lt_of_le (log2_lt h (by decide)) hk
theorem log2_of {n : Nat} {k : Nat} (b : Nat) (h : n ≤ b) (hb : b.log2 < k) : n.log2 < k := by
  by_cases z : n = 0
  · subst z; exact Nat.lt_of_le_of_lt (by simp) (Nat.lt_of_le_of_lt (Nat.zero_le _) hb)
  · rw [Nat.log2_lt z]
    have : b ≠ 0 := by omega
    rw [Nat.log2_lt this] at hb
    omega
/-- the walk's items -/
theorem rangeD_at {lo : Int} {n i : Nat} {d : D} (h : (rangeD lo n)[i]? = some d) : i < n ∧ d = .int (lo + i) := by
  unfold rangeD at h
  rw [List.getElem?_map] at h
  by_cases hi : i < n
  · rw [List.getElem?_range hi] at h
    exact ⟨hi, by simpa using h.symm⟩
  · rw [List.getElem?_eq_none (by simpa using hi)] at h; cases h
@[simp] theorem rangeD_len {lo : Int} {n : Nat} : (rangeD lo n).length = n := by simp [rangeD]
theorem MulOk.l {i j : Int} (h : -(2 ^ 64) < i ∧ i < 2 ^ 64) : MulOk i j := .inl h
theorem MulOk.r {i j : Int} (h : -(2 ^ 64) < j ∧ j < 2 ^ 64) : MulOk i j := .inr (.inl h)
/-- loops: the word of a for with its invariant -/
theorem wFor_i {pt : Pt} {wi : WI} {wb : WS} {ρ : Rho} {O : Out} (h : wi ρ (fun ds => ∃ I : Nat → Rho → Prop, I 0 ρ ∧
  (∀ (i : Nat) (d : D) (ρ' : Rho), ds[i]? = some d → I i ρ' → pt.bind d ρ' fun ρ2 => wb ρ2 { O with nx := I (i + 1), ct := I (i + 1), bk := O.nx }) ∧ ∀ ρ', I ds.length ρ' → O.nx ρ') (fun c => O.ex c ρ)) : wFor pt wi wb ρ O := h
/-- the same, by a measure of slots: a turn leaves the slots as they were but for those told -/
theorem wWhile_i {wt : WT} {wb : WS} {ρ : Rho} {O : Out} (I : Nat → Rho → Prop) (m0 : Nat) (h0 : I m0 ρ) (h : ∀ m ρ', I m ρ' →
  wt ρ' (fun b => if b = true then wb ρ' { O with nx := fun ρ2 => ∃ m', m' < m ∧ I m' ρ2, ct := fun ρ2 => ∃ m', m' < m ∧ I m' ρ2, bk := O.nx } else O.nx ρ') (fun c => O.ex c ρ')) : wWhile wt wb ρ O := ⟨I, ⟨m0, h0⟩, h⟩
/-! ### 22. comprehensions, by what they make -/
theorem wLcK_map {pt : Pt} {vs : List Nat} {we : WE} {ρ : Rho} {Q : W → Prop} {ds : List D} (f : D → D) (hn : noOw vs ρ) (hb : ds.length ≤ big)
    (h : ∀ d ∈ ds, ∀ k : D → Prop, k (f d) → pt.bind d (wipeR ρ vs) fun ρ2 => we ρ2 (fun z => z.clnK k) (fun _ => False)) (q : Q (.fr (ds.map f))) : wLcK pt vs wtYes we ρ Q ds := by
  refine ⟨hn, fun i acc => acc = (ds.take i).map f, by simp, fun i d acc hd e => ?_, fun acc e => ?_⟩
  · obtain ⟨hi, e2⟩ := List.getElem?_eq_some_iff.mp hd
    have hm : d ∈ ds := List.mem_of_getElem? hd
    have hl : acc.length = i := by rw [e]; simp; omega
    refine h d hm _ ⟨by omega, ?_⟩
    show _ = _
    rw [e, List.take_add_one, hd]
    simp
  · have e : acc = _ := e
    rw [e, List.take_length]; exact q
theorem wLcK_fm {pt : Pt} {vs : List Nat} {wt : WT} {we : WE} {ρ : Rho} {Q : W → Prop} {ds : List D} (p : D → Bool) (f : D → D) (hn : noOw vs ρ) (hb : ds.length ≤ big)
    (h : ∀ d ∈ ds, ∀ (k : D → Prop) (k2 : Prop), (p d = true → k (f d)) → (p d = false → k2) → pt.bind d (wipeR ρ vs) fun ρ2 => wt ρ2 (fun b => if b = true then we ρ2 (fun z => z.clnK k) (fun _ => False) else k2) (fun _ => False)) (q : Q (.fr ((ds.filter p).map f))) : wLcK pt vs wt we ρ Q ds := by
  refine ⟨hn, fun i acc => acc = ((ds.take i).filter p).map f, by simp, fun i d acc hd e => ?_, fun acc e => ?_⟩
  · obtain ⟨hi, e2⟩ := List.getElem?_eq_some_iff.mp hd
    have hm : d ∈ ds := List.mem_of_getElem? hd
    have hl : acc.length ≤ i := by
      rw [e, List.length_map]
      exact Nat.le_trans (List.length_filter_le _ _) (by simp; omega)
    refine h d hm _ _ (fun hp => ⟨by omega, ?_⟩) fun hp => ?_
    · show _ = _
      rw [e, List.take_add_one, hd]
      simp [hp]
    · show _ = _
      rw [e, List.take_add_one, hd]
      simp [hp]
  · have e : acc = _ := e
    rw [e, List.take_length]; exact q
/-- each item as some relation has it -/
theorem wLcK_rel {pt : Pt} {vs : List Nat} {we : WE} {ρ : Rho} {Q : W → Prop} {ds : List D} (r : D → D → Prop) (hn : noOw vs ρ) (hb : ds.length ≤ big)
    (h : ∀ d ∈ ds, ∀ k : D → Prop, (∀ y, r d y → k y) → pt.bind d (wipeR ρ vs) fun ρ2 => we ρ2 (fun z => z.clnK k) (fun _ => False)) (q : ∀ ys : List D, ys.length = ds.length → (∀ (i : Nat) (d y : D), ds[i]? = some d → ys[i]? = some y → r d y) → Q (.fr ys)) : wLcK pt vs wtYes we ρ Q ds := by
  refine ⟨hn, fun i acc => acc.length = i ∧ ∀ (j : Nat) (d y : D), ds[j]? = some d → acc[j]? = some y → r d y, ⟨rfl, fun j d y _ e => by simp at e⟩, fun i d acc hd ⟨e1, e2⟩ => ?_, fun acc ⟨e1, e2⟩ => q acc e1 e2⟩
  obtain ⟨hi, _⟩ := List.getElem?_eq_some_iff.mp hd
  have hm : d ∈ ds := List.mem_of_getElem? hd
  refine h d hm _ fun y hy => ⟨by omega, by simp [e1], fun j d' y' hd' hy' => ?_⟩
  by_cases hj : j < acc.length
  · rw [List.getElem?_append_left hj] at hy'; exact e2 j d' y' hd' hy'
  · by_cases hj2 : j = acc.length
    · rw [hj2, List.getElem?_append_right (Nat.le_refl _)] at hy'
      rw [hj2, e1, hd] at hd'
      cases hd'
      simp at hy'
      exact hy' ▸ hy
    · rw [List.getElem?_append_right (by omega)] at hy'
      rw [List.getElem?_eq_none (by simp; omega)] at hy'; cases hy'
/-- a for whose turns leave the slots in a shape -/
theorem wFor_inv {pt : Pt} {wb : WS} {ρ : Rho} {O : Out} (ds : List D) (I : Nat → Rho → Prop) (h0 : I 0 ρ)
    (h : ∀ (i : Nat) (d : D) (ρ' : Rho), ds[i]? = some d → I i ρ' → pt.bind d ρ' fun ρ2 => wb ρ2 { O with nx := I (i + 1), ct := I (i + 1), bk := O.nx }) (he : ∀ ρ', I ds.length ρ' → O.nx ρ') :
    ∃ I : Nat → Rho → Prop, I 0 ρ ∧ (∀ (i : Nat) (d : D) (ρ' : Rho), ds[i]? = some d → I i ρ' → pt.bind d ρ' fun ρ2 => wb ρ2 { O with nx := I (i + 1), ct := I (i + 1), bk := O.nx }) ∧ ∀ ρ', I ds.length ρ' → O.nx ρ' := ⟨I, h0, h, he⟩
theorem big_eq : big = 16000000 := rfl
theorem le_big {n : Nat} (h : n ≤ 16000000) : n ≤ big := h
theorem lt_big {n : Nat} (h : n < 16000000) : n < big := h
/-! ### sizes -/
def Bd (i : Int) (k : Nat) : Prop := i.natAbs < 2 ^ k
theorem bd_of {i : Int} {k : Nat} (h : -(2 ^ k) < i ∧ i < 2 ^ k) : Bd i k := by
  unfold Bd
  have : ((2 ^ k : Nat) : Int) = (2 : Int) ^ k := by simp
  omega
theorem Bd.mul {i j : Int} {k l : Nat} (h : Bd i k) (h' : Bd j l) : Bd (i * j) (k + l) := by
  unfold Bd at *
  rw [Int.natAbs_mul, Nat.pow_add]
  exact Nat.mul_lt_mul'' h h'
theorem Bd.mono {i : Int} {k l : Nat} (h : Bd i k) (hl : k ≤ l) : Bd i l := Nat.lt_of_lt_of_le h (Nat.pow_le_pow_right (by decide) hl)
theorem Bd.add {i j : Int} {k l : Nat} (h : Bd i k) (h' : Bd j l) : Bd (i + j) (max k l + 1) := by
  have h1 := h.mono (Nat.le_max_left k l)
  have h2 := h'.mono (Nat.le_max_right k l)
  unfold Bd at *
  rw [Nat.pow_succ]
  omega
theorem Bd.neg {i : Int} {k : Nat} (h : Bd i k) : Bd (-i) k := by
  unfold Bd at *
  rw [Int.natAbs_neg]; exact h
theorem Bd.sub {i j : Int} {k l : Nat} (h : Bd i k) (h' : Bd j l) : Bd (i - j) (max k l + 1) := by
  rw [Int.sub_eq_add_neg]; exact h.add h'.neg
theorem Bd.log {i : Int} {k : Nat} (h : Bd i k) (hk : k ≤ 1919) : i.natAbs.log2 < 1920 := log2_lt (Nat.lt_of_lt_of_le h (Nat.pow_le_pow_right (by decide) (Nat.le_succ_of_le hk))) (by decide)
theorem Bd.sh {i : Int} {k : Nat} (h : Bd i k) (hk : k ≤ 1919) : shOk (.int i) = true := by simp only [shOk]; exact decide_eq_true (h.log hk)
theorem Bd.log_le {i : Int} {k : Nat} (h : Bd i k) : i.natAbs.log2 ≤ k := by
  by_cases z : i.natAbs = 0
  · rw [z]; simp
  · exact Nat.le_of_lt ((Nat.log2_lt z).mpr h)
theorem MulOk.bd {i j : Int} {k l : Nat} (h : Bd i k) (h' : Bd j l) (hk : k + l < 1000000) : MulOk i j := .inr (.inr (Nat.lt_of_le_of_lt (Nat.add_le_add h.log_le h'.log_le) hk))
end R
namespace R
open PySem PySem.Spec PyProof.Rows L2
set_option autoImplicit false
/-! ### 23. the words, one step at a time (nothing but a goal's head is looked at) -/
section
variable {ρ : Rho} {Q : W → Prop} {E : Str → Prop} {Qs : List W → Prop} {Qb : Bool → Prop} {wa wb wc : WE} {ws : WA} {wt wu : WT} {w u : WS} {nx bk ct : Rho → Prop} {rt : W → Prop} {ex : Str → Rho → Prop} {i j k : Int} {d e : D} {ds es : List D} {n : Nat} {x y : W}
theorem wVar_d (h : ρ[n]? = some (some (.im d))) (q : Q (.d d)) : wVar n ρ Q E := by unfold wVar; rw [h]; exact q
theorem wVar_o (h : ρ[n]? = some (some (.ow ds))) (q : Q (.ow ds)) : wVar n ρ Q E := by unfold wVar; rw [h]; exact q
theorem wVar_b (h : ρ[n]? = some (some .bag)) (q : Q .bag) : wVar n ρ Q E := by unfold wVar; rw [h]; exact q
theorem wC_i (q : Q (.d d)) : wC d ρ Q E := q
theorem w2_i {f : W → W → (W → Prop) → Prop} (q : wa ρ (fun x => wb ρ (fun y => f x y Q) E) E) : w2 f wa wb ρ Q E := q
theorem w1_i {f : W → (W → Prop) → Prop} (q : wa ρ (fun x => f x Q) E) : w1 f wa ρ Q E := q
theorem wAddA_i (q : Q (.d (.int (i + j)))) : wAddA (.d (.int i)) (.d (.int j)) Q := .inl q
theorem wAddA_l {a b : List D} (hx : x.dat = some (.list a)) (hy : y.dat = some (.list b)) (h : a.length + b.length ≤ big) (q : Q (.fr (a ++ b))) : wAddA x y Q := .inl (by unfold wAdd; rw [hx, hy]; exact ⟨h, q⟩)
theorem wAddA_t {a b : List D} (h : a.length + b.length ≤ big) (q : Q (.d (.tuple (a ++ b)))) : wAddA (.d (.tuple a)) (.d (.tuple b)) Q := .inr ⟨h, q⟩
theorem wAddA_s {a b : Str} (h : a.length + b.length ≤ big) (q : Q (.d (.str (a ++ b)))) : wAddA (.d (.str a)) (.d (.str b)) Q := .inl ⟨h, q⟩
theorem wSub_i (q : Q (.d (.int (i - j)))) : wSub (.d (.int i)) (.d (.int j)) Q := ⟨trivial, q⟩
theorem wMulA_i (h : MulOk i j) (q : Q (.d (.int (i * j)))) : wMulA (.d (.int i)) (.d (.int j)) Q := .inl ⟨h, q⟩
theorem wMulA_l {a : List D} (hx : x.dat = some (.list a)) (h : a.length * k.toNat ≤ big ∧ -(2 ^ 63) ≤ k ∧ k < 2 ^ 63) (q : Q (.fr (List.replicate k.toNat a).flatten)) : wMulA x (.d (.int k)) Q := .inr (.inl (by unfold wRep; rw [hx]; exact ⟨h.1, h.2.1, h.2.2, q⟩))
theorem wMulA_t {a : List D} (h : a ≠ [] ∧ 2 ≤ k ∧ k ≤ 1000 ∧ a.length ≤ 1000) (q : Q (.d (.tuple (List.replicate k.toNat a).flatten))) : wMulA (.d (.tuple a)) (.d (.int k)) Q := .inr (.inr ⟨h.1, h.2.1, h.2.2.1, h.2.2.2, q⟩)
theorem wDiv_i (h : j ≠ 0 ∧ j.natAbs.log2 < 9000) (q : Q (.d (.int (i.fdiv j)))) : wDiv (.d (.int i)) (.d (.int j)) Q := ⟨h, q⟩
theorem wMod_i (h : j ≠ 0) (q : Q (.d (.int (i.fmod j)))) : wMod (.d (.int i)) (.d (.int j)) Q := ⟨h, q⟩
theorem wPow_i (h : 0 ≤ j ∧ j ≤ 1000000 ∧ i.natAbs < 2 ^ 64) (q : Q (.d (.int (i ^ j.toNat)))) : wPow (.d (.int i)) (.d (.int j)) Q := ⟨h, q⟩
theorem wShl_i (h : 0 ≤ j ∧ j ≤ 1000000 ∧ i.natAbs < 2 ^ 64) (q : Q (.d (.int (i * 2 ^ j.toNat)))) : wShl (.d (.int i)) (.d (.int j)) Q := ⟨h, q⟩
theorem wNegI_i (q : Q (.d (.int (-i)))) : wNegI (.d (.int i)) Q := q
theorem wLtI_i (q : Q (.d (.bool (decide (i < j))))) : wLtI (.d (.int i)) (.d (.int j)) Q := ⟨trivial, q⟩
theorem wLeI_i (q : Q (.d (.bool (decide (i ≤ j))))) : wLeI (.d (.int i)) (.d (.int j)) Q := ⟨trivial, q⟩
theorem wGtI_i (q : Q (.d (.bool (decide (j < i))))) : wGtI (.d (.int i)) (.d (.int j)) Q := ⟨trivial, q⟩
theorem wGeI_i (q : Q (.d (.bool (decide (j ≤ i))))) : wGeI (.d (.int i)) (.d (.int j)) Q := ⟨trivial, q⟩
theorem wEq_i (q : Q (.d (.bool (decide (i = j))))) : wEq (.d (.int i)) (.d (.int j)) Q := q
theorem wNe_i (q : Q (.d (.bool (!decide (i = j))))) : wNe (.d (.int i)) (.d (.int j)) Q := q
theorem wEq_s {a b : Str} (q : Q (.d (.bool (decide (a = b))))) : wEq (.d (.str a)) (.d (.str b)) Q := q
theorem wNe_s {a b : Str} (q : Q (.d (.bool (!decide (a = b))))) : wNe (.d (.str a)) (.d (.str b)) Q := q
theorem wEq_b {a b : Bool} (q : Q (.d (.bool (decide (a = b))))) : wEq (.d (.bool a)) (.d (.bool b)) Q := q
theorem wNe_b {a b : Bool} (q : Q (.d (.bool (!decide (a = b))))) : wNe (.d (.bool a)) (.d (.bool b)) Q := q
@[simp] def plainS : D → Bool
  | .int _ => false
  | .str _ => false
  | .bool _ => false
  | _ => true
theorem eqW_seq {a b : D} {Q : Bool → Prop} (h1 : Shp 60 a) (h2 : Shp 60 b) (q : Q (PyData.eqv a b)) (hn : plainS a = true) : eqW a b Q := by
  cases a <;> first | (exact ⟨h1, h2, q⟩) | (exact absurd hn (by simp [plainS]))
theorem wEq_q (hx : x.dat = some d) (hy : y.dat = some e) (hn : plainS d = true) (h : Shp 60 d ∧ Shp 60 e) (q : Q (.d (.bool (PyData.eqv d e)))) : wEq x y Q := by unfold wEq; rw [hx, hy]; exact eqW_seq h.1 h.2 q hn
theorem wNe_q (hx : x.dat = some d) (hy : y.dat = some e) (hn : plainS d = true) (h : Shp 60 d ∧ Shp 60 e) (q : Q (.d (.bool (!PyData.eqv d e)))) : wNe x y Q := by unfold wNe; rw [hx, hy]; exact eqW_seq h.1 h.2 q hn
theorem wIsN_i (hx : x.dat = some d) (q : Q (.d (.bool (isNon d)))) : wIsN x (.d .none) Q := by unfold wIsN; rw [hx]; exact q
theorem wNotN_i (hx : x.dat = some d) (q : Q (.d (.bool (!isNon d)))) : wNotN x (.d .none) Q := by unfold wNotN; rw [hx]; exact q
theorem wIn_i {neg : Bool} (hx : x.dat = some d) (hy : y.dat.bind seqD = some ds) (h : flatD d = true ∧ ∀ d ∈ ds, flatD d = true) (q : Q (.d (.bool (if neg then !inD d ds else inD d ds)))) : wIn neg x y Q := by unfold wIn; rw [hx, hy]; exact ⟨h.1, h.2, q⟩
theorem tst_i {b : Bool} (q : Qb b) : W.tst (.d (.bool b)) Qb := q
theorem wB_i (q : wa ρ (fun z => z.tst Qb) E) : wB wa ρ Qb E := q
theorem wChain_i {f g : W → W → (W → Prop) → Prop} (q : wa ρ (fun x => wb ρ (fun y => f x y fun z => z.tst fun k => if k = true then wc ρ (fun u => g y u Q) E else Q (.d (.bool false))) E) E) : wChain f g wa wb wc ρ Q E := q
theorem wtAnd_i (q : wt ρ (fun b => if b = true then wu ρ Qb E else Qb false) E) : wtAnd wt wu ρ Qb E := q
theorem wtOr_i (q : wt ρ (fun b => if b = true then Qb true else wu ρ Qb E) E) : wtOr wt wu ρ Qb E := q
theorem wtNot_i (q : wt ρ (fun b => Qb (!b)) E) : wtNot wt ρ Qb E := q
theorem wAndV_i (q : wa ρ (fun z => z.tst fun k => if k = true then wb ρ Q E else Q (.d (.bool false))) E) : wAndV wa wb ρ Q E := q
theorem wOrV_i (q : wa ρ (fun z => z.tst fun k => if k = true then Q (.d (.bool true)) else wb ρ Q E) E) : wOrV wa wb ρ Q E := q
theorem wNotV_i (q : wa ρ (fun z => z.tst fun k => Q (.d (.bool (!k)))) E) : wNotV wa ρ Q E := q
theorem wIf_i (q : wt ρ (fun k => if k = true then wa ρ Q E else wb ρ Q E) E) : wIf wt wa wb ρ Q E := q
theorem ite_t {b : Bool} {A B : Prop} (h : b = true) (q : A) : if b = true then A else B := by rw [if_pos h]; exact q
theorem ite_f {b : Bool} {A B : Prop} (h : b = false) (q : B) : if b = true then A else B := by rw [if_neg (by rw [h]; decide)]; exact q
theorem ite_d {p : Prop} [Decidable p] {A B : Prop} (h1 : p → A) (h2 : ¬p → B) : if decide p = true then A else B := by
  by_cases h : p
  · rw [if_pos (decide_eq_true h)]; exact h1 h
  · rw [if_neg (by simpa using h)]; exact h2 h
theorem ite_nd {p : Prop} [Decidable p] {A B : Prop} (h1 : ¬p → A) (h2 : p → B) : if (!decide p) = true then A else B := by
  by_cases h : p
  · rw [if_neg (by simpa using h)]; exact h2 h
  · rw [if_pos (by simpa using h)]; exact h1 h
theorem ite_b {b : Bool} {A B : Prop} (h1 : b = true → A) (h2 : b = false → B) : if b = true then A else B := by
  cases b with
  | true => rw [if_pos rfl]; exact h1 rfl
  | false => rw [if_neg (by decide)]; exact h2 rfl
theorem ite_q {a b : D} {A B : Prop} (h1 : PyData.eqv a b = true → A) (h2 : PyData.eqv a b = false → B) : if PyData.eqv a b = true then A else B := ite_b h1 h2
theorem ite_nq {a b : D} {A B : Prop} (h1 : PyData.eqv a b = false → A) (h2 : PyData.eqv a b = true → B) : if (!PyData.eqv a b) = true then A else B := ite_b (fun h => h1 (by simpa using h)) (fun h => h2 (by simpa using h))
theorem waNil_i (q : Qs []) : waNil ρ Qs E := q
theorem waCons_i (q : wa ρ (fun x => ws ρ (fun xs => Qs (x :: xs)) E) E) : waCons wa ws ρ Qs E := q
def tupK (Q : W → Prop) (xs : List W) : Prop := match clns xs with
  | some ds => ds.length ≤ big ∧ Q (.d (.tuple ds))
  | none => False
def lstK' (Q : W → Prop) (xs : List W) : Prop := match clns xs with
  | some ds => ds.length ≤ big ∧ Q (.fr ds)
  | none => False
theorem wTup_i (q : ws ρ (tupK Q) E) : wTup ws ρ Q E := q
theorem wLst_i (q : ws ρ (lstK' Q) E) : wLst ws ρ Q E := q
theorem tupK_i {xs : List W} (h : clns xs = some ds) (hl : ds.length ≤ big) (q : Q (.d (.tuple ds))) : tupK Q xs := by unfold tupK; rw [h]; exact ⟨hl, q⟩
theorem lstK_i {xs : List W} (h : clns xs = some ds) (hl : ds.length ≤ big) (q : Q (.fr ds)) : lstK' Q xs := by unfold lstK'; rw [h]; exact ⟨hl, q⟩
theorem wIx_i (hx : x.dat.bind seqD = some ds) (hi : L2.atI ds i = some d) (q : Q (.d d)) : wIx x (.d (.int i)) Q := by unfold wIx; rw [hx]; show (match L2.atI ds i with | some d => Q (.d d) | none => False); rw [hi]; exact q
theorem woN_i {Qo : Option Int → Prop} (q : Qo none) : woN ρ Qo E := q
def woK (Qo : Option Int → Prop) : W → Prop := fun x => match x with
  | .d (.int i) => Qo (some i)
  | _ => False
theorem woS_i {Qo : Option Int → Prop} (q : wa ρ (woK Qo) E) : woS wa ρ Qo E := q
theorem woK_i {Qo : Option Int → Prop} (q : Qo (some i)) : woK Qo (.d (.int i)) := q
def slK (Q : W → Prop) (x : W) (l h : Option Int) : Prop := match x.dat with
  | some (.list ds) => Q (.fr (cutD ds l h))
  | some (.tuple ds) => Q (.d (.tuple (cutD ds l h)))
  | _ => False
theorem wSl_i {wl wh : WO} (q : wa ρ (fun x => wl ρ (fun l => wh ρ (fun h => slK Q x l h) E) E) E) : wSl wa wl wh ρ Q E := q
theorem slK_l {l h : Option Int} (hx : x.dat = some (.list ds)) (q : Q (.fr (cutD ds l h))) : slK Q x l h := by unfold slK; rw [hx]; exact q
theorem slK_t {l h : Option Int} (q : Q (.d (.tuple (cutD ds l h)))) : slK Q (.d (.tuple ds)) l h := q
theorem wCB_i {f : List W → (W → Prop) → Prop} (q : ws ρ (fun xs => f xs Q) E) : wCB f ws ρ Q E := q
theorem bLen_l (hx : x.dat = some (.list ds)) (q : Q (.d (.int ds.length))) : bLen [x] Q := by unfold bLen; simp only [hx]; exact q
theorem bLen_t (q : Q (.d (.int ds.length))) : bLen [.d (.tuple ds)] Q := q
theorem bLen_s {z : Str} (h : z.length ≤ big) (q : Q (.d (.int z.length))) : bLen [.d (.str z)] Q := ⟨h, q⟩
theorem bAbs_i (q : Q (.d (.int (if i < 0 then -i else i)))) : bAbs [.d (.int i)] Q := q
theorem bInt_i (q : Q (.d (.int i))) : bInt [.d (.int i)] Q := q
theorem bInt_b {b : Bool} (q : Q (.d (.int (if b then 1 else 0)))) : bInt [.d (.bool b)] Q := q
theorem bMax2_i (q : Q (.d (.int (if j > i then j else i)))) : bMax2 [.d (.int i), .d (.int j)] Q := q
theorem bMin2_i (q : Q (.d (.int (if j < i then j else i)))) : bMin2 [.d (.int i), .d (.int j)] Q := q
theorem bTuple_l (hx : x.dat = some (.list ds)) (q : Q (.d (.tuple ds))) : bTuple [x] Q := by unfold bTuple; simp only [hx]; exact q
theorem bTuple_t (q : Q (.d (.tuple ds))) : bTuple [.d (.tuple ds)] Q := q
theorem bList_i (hx : x.dat.bind seqD = some ds) (q : Q (.fr ds)) : bList [x] Q := by unfold bList; simp only [hx]; exact q
theorem bSum_i (hx : x.dat = some (.list ds)) (h : ∀ d ∈ ds, isI d) (q : Q (.d (.int (ds.map asI).sum))) : bSum [x] Q := by unfold bSum; simp only [hx]; exact ⟨h, q⟩
theorem bAll_i (hx : x.dat = some (.list ds)) (h : ∀ d ∈ ds, isBl d) (q : Q (.d (.bool (ds.all asB)))) : bAll [x] Q := by unfold bAll; simp only [hx]; exact ⟨h, q⟩
theorem bAny_i (hx : x.dat = some (.list ds)) (h : ∀ d ∈ ds, isBl d) (q : Q (.d (.bool (ds.any asB)))) : bAny [x] Q := by unfold bAny; simp only [hx]; exact ⟨h, q⟩
theorem bRepr_i (h : i.natAbs.log2 < 1920) (q : Q (.d (.str (PyData.int i).shown))) : bRepr [.d (.int i)] Q := ⟨h, q⟩
theorem bRepr_l (hx : x.dat = some (.list ds)) (h : shOks ds = true ∧ Shp 59 (.list ds) ∧ shws ds ≤ 15999000) (q : Q (.d (.str (PyData.list ds).shown))) : bRepr [x] Q := by unfold bRepr; simp only [hx]; exact ⟨h.1, h.2.1, h.2.2, q⟩
theorem bRepr_t (h : shOks ds = true ∧ Shp 59 (.tuple ds) ∧ shws ds ≤ 15999000) (q : Q (.d (.str (PyData.tuple ds).shown))) : bRepr [.d (.tuple ds)] Q := ⟨h.1, h.2.1, h.2.2, q⟩
def isiK (T : String) (Q : W → Prop) (x : W) : Prop := match x.dat with
  | some d => noDict d = true ∧ Q (.d (.bool (isTy T d)))
  | none => False
theorem wIsi_i {T : String} (q : wa ρ (isiK T Q) E) : wIsi T wa ρ Q E := q
theorem isiK_i {T : String} (hx : x.dat = some d) (hn : noDict d = true) (q : Q (.d (.bool (isTy T d)))) : isiK T Q x := by unfold isiK; rw [hx]; exact ⟨hn, q⟩
def callK (Φ : Prom) (Q : W → Prop) (E : Str → Prop) (xs : List W) : Prop := Φ.fs (xs.map W.arg) (fun z => (xs.any W.isOw = true → z.plain = true) ∧ Q z) E
theorem wCall_i {Φ : Prom} (q : ws ρ (callK Φ Q E) E) : wCall Φ ws ρ Q E := q
/-- a call that answers one value -/
theorem callK_v {Φ : Prom} {xs : List W} {v : W} (hn : xs.length = Φ.n) (hv : Φ.post (xs.map W.arg) = fun z => z = v) (he : Φ.exc (xs.map W.arg) = fun _ => False) (ho : xs.any W.isOw = false ∨ v.plain = true) (hp : Φ.pre (xs.map W.arg)) (q : Q v) : callK Φ Q E xs := by
  refine ⟨by rw [List.length_map]; exact hn, hp, fun z hz => ?_, fun c hc => ?_⟩
  · rw [hv] at hz
    subst hz
    exact ⟨fun h => ho.elim (fun h2 => by rw [h2] at h; cases h) id, q⟩
  · rw [he] at hc; exact hc.elim
theorem callK_x {Φ : Prom} {xs : List W} (hn : xs.length = Φ.n) (hp : Φ.pre (xs.map W.arg)) (ho : ∀ z, Φ.post (xs.map W.arg) z → xs.any W.isOw = false ∨ z.plain = true) (he : ∀ c, Φ.exc (xs.map W.arg) c → E c) (q : ∀ z, Φ.post (xs.map W.arg) z → Q z) : callK Φ Q E xs :=
  ⟨by rw [List.length_map]; exact hn, hp, fun z hz => ⟨fun h => (ho z hz).elim (fun h2 => by rw [h2] at h; cases h) id, q z hz⟩, he⟩
theorem callK_p {m : Int} (h : 0 < m ∧ m.natAbs.log2 < 8000) (q : ∀ r : Int, 0 ≤ r → r < m → Q (.d (.int r))) : callK pickS Q E [.bag, .d (.int m)] := by
  refine ⟨rfl, ⟨m, rfl, h.1, h.2⟩, fun z hz => ?_, fun c hc => hc.elim⟩
  obtain ⟨r, rfl, h0, h1⟩ := hz m rfl
  exact ⟨fun h => absurd h (by simp [W.isOw, List.any]), q r h0 h1⟩
theorem callK_pb {m : Int} (h : 0 < m ∧ m < 2 ^ 200) (q : ∀ r : Int, 0 ≤ r → r < m → Q (.d (.int r))) : callK pickS Q E [.bag, .d (.int m)] :=
  callK_p ⟨h.1, Nat.lt_of_lt_of_le (log2_lt (k := 200) (by omega) (by decide)) (by decide)⟩ q
/-! statements -/
theorem wNext_i (q : nx ρ) : wNext ρ ⟨nx, rt, bk, ct, ex⟩ := q
theorem wBrk_i (q : bk ρ) : wBrk ρ ⟨nx, rt, bk, ct, ex⟩ := q
theorem wCnt_i (q : ct ρ) : wCnt ρ ⟨nx, rt, bk, ct, ex⟩ := q
theorem wSeq_i (q : w ρ ⟨fun ρ' => u ρ' ⟨nx, rt, bk, ct, ex⟩, rt, bk, ct, ex⟩) : wSeq w u ρ ⟨nx, rt, bk, ct, ex⟩ := q
theorem wCut_i (Mid : Rho → Prop) (q : w ρ ⟨Mid, rt, bk, ct, ex⟩) (r : ∀ ρ', Mid ρ' → u ρ' ⟨nx, rt, bk, ct, ex⟩) : wCut w u ρ ⟨nx, rt, bk, ct, ex⟩ := ⟨Mid, q, r⟩
theorem wRel_i (h : ρ[n]? = some (some (.ow ds))) (q : u (ρ.set n (some (.im (.list ds)))) ⟨nx, rt, bk, ct, ex⟩) : wRel n u ρ ⟨nx, rt, bk, ct, ex⟩ := by unfold wRel; rw [h]; exact q
theorem wDrop_i (q : wa ρ (fun _ => nx ρ) (fun c => ex c ρ)) : wDrop wa ρ ⟨nx, rt, bk, ct, ex⟩ := q
def retK (rt : W → Prop) (z : W) : Prop := match z with
  | .d x => rt (.d x)
  | .fr xs => rt (.fr xs)
  | .ow xs => rt (.fr xs)
  | .bag => False
theorem wRet_i (q : wa ρ (retK rt) (fun c => ex c ρ)) : wRet wa ρ ⟨nx, rt, bk, ct, ex⟩ := q
theorem retK_d (q : rt (.d d)) : retK rt (.d d) := q
theorem retK_f (q : rt (.fr ds)) : retK rt (.fr ds) := q
theorem retK_o (q : rt (.fr ds)) : retK rt (.ow ds) := q
theorem wRetN_i (q : rt (.d .none)) : wRetN ρ ⟨nx, rt, bk, ct, ex⟩ := q
theorem wIfS_i (q : wt ρ (fun b => if b = true then w ρ ⟨nx, rt, bk, ct, ex⟩ else u ρ ⟨nx, rt, bk, ct, ex⟩) (fun c => ex c ρ)) : wIfS wt w u ρ ⟨nx, rt, bk, ct, ex⟩ := q
theorem clnK_d {k : D → Prop} (q : k d) : W.clnK (.d d) k := q
theorem clnK_f {k : D → Prop} (q : k (.list ds)) : W.clnK (.fr ds) k := q
theorem frK_f {k : List D → Prop} (q : k ds) : W.frK (.fr ds) k := q
theorem wAsg_i (q : wa ρ (fun z => z.clnK fun d => nx (ρ.set n (some (.im d)))) (fun c => ex c ρ)) : wAsg n wa ρ ⟨nx, rt, bk, ct, ex⟩ := q
theorem wOwn_i (q : wa ρ (fun z => z.frK fun xs => nx (ρ.set n (some (.ow xs)))) (fun c => ex c ρ)) : wOwn n wa ρ ⟨nx, rt, bk, ct, ex⟩ := q
theorem wAsgP_i {pt : Pt} (q : wa ρ (fun z => z.clnK fun d => pt.bind d ρ nx) (fun c => ex c ρ)) : wAsgP pt wa ρ ⟨nx, rt, bk, ct, ex⟩ := q
theorem bind_n {N : Rho → Prop} (q : N (ρ.set n (some (.im d)))) : Pt.bind (.nm n) d ρ N := q
theorem bind_t {is : List Nat} {N : Rho → Prop} (h : ds.length = is.length) (q : N (setAll is ds ρ)) : Pt.bind (.tp is) (.tuple ds) ρ N := ⟨h, q⟩
def augK (nx : Rho → Prop) (ρ : Rho) (i : Nat) (f : Int → Int → Int) (n : Int) (z : W) : Prop := match z with
  | .d (.int m) => nx (ρ.set i (some (.im (.int (f n m)))))
  | _ => False
theorem wAug_i {f : Int → Int → Int} (h : ρ[n]? = some (some (.im (.int i)))) (q : wa ρ (augK nx ρ n f i) (fun c => ex c ρ)) : wAug n f wa ρ ⟨nx, rt, bk, ct, ex⟩ := by
  unfold wAug
  rw [h]
  exact q
theorem augK_i {f : Int → Int → Int} (q : nx (ρ.set n (some (.im (.int (f i j)))))) : augK nx ρ n f i (.d (.int j)) := q
def parK (nx : Rho → Prop) (ρ : Rho) (i j : Nat) (xs : List W) : Prop := match xs with
  | [x, y] => (match x.cln, y.cln with
    | some d, some e => nx ((ρ.set i (some (.im d))).set j (some (.im e)))
    | _, _ => False)
  | _ => False
theorem wPar_i {m : Nat} (q : ws ρ (parK nx ρ n m) (fun c => ex c ρ)) : wPar n m ws ρ ⟨nx, rt, bk, ct, ex⟩ := q
theorem parK_i {m : Nat} (hx : x.cln = some d) (hy : y.cln = some e) (q : nx ((ρ.set n (some (.im d))).set m (some (.im e)))) : parK nx ρ n m [x, y] := by unfold parK; simp only [hx, hy]; exact q
def parOK (nx : Rho → Prop) (ρ : Rho) (i j : Nat) (xs : List W) : Prop := match xs with
  | [.fr ds, .d e] => plainD e = true ∧ nx ((ρ.set i (some (.ow ds))).set j (some (.im e)))
  | _ => False
theorem wParO_i {m : Nat} (q : ws ρ (parOK nx ρ n m) (fun c => ex c ρ)) : wParO n m ws ρ ⟨nx, rt, bk, ct, ex⟩ := q
theorem parOK_i {m : Nat} (h : plainD e = true) (q : nx ((ρ.set n (some (.ow ds))).set m (some (.im e)))) : parOK nx ρ n m [.fr ds, .d e] := ⟨h, q⟩
theorem wApp_i (h : ρ[n]? = some (some (.ow ds))) (q : wa ρ (fun z => z.clnK fun d => ds.length < big ∧ nx (ρ.set n (some (.ow (ds ++ [d]))))) (fun c => ex c ρ)) : wApp n wa ρ ⟨nx, rt, bk, ct, ex⟩ := by
  unfold wApp owK
  rw [h]
  exact q
theorem lstK_d {k : List D → Prop} (hx : x.dat = some (.list ds)) (q : k ds) : W.lstK x k := by unfold W.lstK; rw [hx]; exact q
theorem wExtend_i (h : ρ[n]? = some (some (.ow ds))) (q : wa ρ (fun z => z.lstK fun es => ds.length + es.length ≤ big ∧ nx (ρ.set n (some (.ow (ds ++ es))))) (fun c => ex c ρ)) : wExtend n wa ρ ⟨nx, rt, bk, ct, ex⟩ := by
  unfold wExtend owK
  rw [h]
  exact q
theorem wRaise_i {c : Str} (q : ex c ρ) : wRaise c ρ ⟨nx, rt, bk, ct, ex⟩ := q
def setK' (nx : Rho → Prop) (ρ : Rho) (i : Nat) (ds : List D) (d : D) (y : W) : Prop := match y with
  | .d (.int k) => (match ixN ds.length k with
    | some j => nx (ρ.set i (some (.ow (ds.set j d))))
    | none => False)
  | _ => False
theorem wSet_i {wk : WE} (q : wa ρ (fun z => z.clnK fun d => owK ρ n fun ds => wk ρ (setK' nx ρ n ds d) (fun c => ex c ρ)) (fun c => ex c ρ)) : wSet n wa wk ρ ⟨nx, rt, bk, ct, ex⟩ := q
theorem owK_i {k : List D → Prop} (h : ρ[n]? = some (some (.ow ds))) (q : k ds) : owK ρ n k := by unfold owK; rw [h]; exact q
theorem setK_i {m : Nat} (h : ixN ds.length i = some m) (q : nx (ρ.set n (some (.ow (ds.set m d))))) : setK' nx ρ n ds d (.d (.int i)) := by
  unfold setK'
  simp only [h]
  exact q
/-! walks -/
def seqK (Q : List D → Prop) (z : W) : Prop := match z.cln.bind seqD with
  | some ds => Q ds
  | none => False
theorem wiSeq_i {Ql : List D → Prop} (q : wa ρ (seqK Ql) E) : wiSeq wa ρ Ql E := q
theorem seqK_i {Ql : List D → Prop} (h : x.cln.bind seqD = some ds) (q : Ql ds) : seqK Ql x := by unfold seqK; rw [h]; exact q
def r1K (Q : List D → Prop) (xs : List W) : Prop := match xs with
  | [.d (.int j)] => -(2 ^ 62) ≤ j ∧ j < 2 ^ 62 ∧ Q (rangeD 0 j.toNat)
  | _ => False
def r2K (Q : List D → Prop) (xs : List W) : Prop := match xs with
  | [.d (.int i), .d (.int j)] => (-(2 ^ 62) ≤ i ∧ i < 2 ^ 62 ∧ -(2 ^ 62) ≤ j ∧ j < 2 ^ 62) ∧ Q (rangeD i (j - i).toNat)
  | _ => False
theorem wiR1_i {Ql : List D → Prop} (q : ws ρ (r1K Ql) E) : wiR1 ws ρ Ql E := q
theorem r1K_i {Ql : List D → Prop} (h : -(2 ^ 62) ≤ j ∧ j < 2 ^ 62) (q : Ql (rangeD 0 j.toNat)) : r1K Ql [.d (.int j)] := ⟨h.1, h.2, q⟩
theorem wiR2_i {Ql : List D → Prop} (q : ws ρ (r2K Ql) E) : wiR2 ws ρ Ql E := q
theorem r2K_i {Ql : List D → Prop} (h : -(2 ^ 62) ≤ i ∧ i < 2 ^ 62 ∧ -(2 ^ 62) ≤ j ∧ j < 2 ^ 62) (q : Ql (rangeD i (j - i).toNat)) : r2K Ql [.d (.int i), .d (.int j)] := ⟨h, q⟩
/-- the loop's and the comprehension's own questions, behind what is walked -/
def forK (pt : Pt) (wb : WS) (ρ : Rho) (O : Out) (ds : List D) : Prop := ∃ I : Nat → Rho → Prop, I 0 ρ ∧
  (∀ (i : Nat) (d : D) (ρ' : Rho), ds[i]? = some d → I i ρ' → pt.bind d ρ' fun ρ2 => wb ρ2 { O with nx := I (i + 1), ct := I (i + 1), bk := O.nx }) ∧ ∀ ρ', I ds.length ρ' → O.nx ρ'
theorem wFor_k {pt : Pt} {wi : WI} (q : wi ρ (forK pt w ρ ⟨nx, rt, bk, ct, ex⟩) (fun c => ex c ρ)) : wFor pt wi w ρ ⟨nx, rt, bk, ct, ex⟩ := q
theorem forK_i {pt : Pt} (I : Nat → Rho → Prop) (h0 : I 0 ρ) (h : ∀ (i : Nat) (d : D) (ρ' : Rho), ds[i]? = some d → I i ρ' → pt.bind d ρ' fun ρ2 => w ρ2 ⟨I (i + 1), rt, nx, I (i + 1), ex⟩) (he : ∀ ρ', I ds.length ρ' → nx ρ') : forK pt w ρ ⟨nx, rt, bk, ct, ex⟩ ds := ⟨I, h0, h, he⟩
theorem wLc_i {pt : Pt} {vs : List Nat} {wi : WI} (q : wi ρ (wLcK pt vs wt wa ρ Q) E) : wLc pt vs wi wt wa ρ Q E := q
theorem wWhile_k (I : Nat → Rho → Prop) (m0 : Nat) (h0 : I m0 ρ) (h : ∀ m ρ', I m ρ' →
  wt ρ' (fun b => if b = true then w ρ' ⟨fun ρ2 => ∃ m', m' < m ∧ I m' ρ2, rt, nx, fun ρ2 => ∃ m', m' < m ∧ I m' ρ2, ex⟩ else nx ρ') (fun c => ex c ρ')) : wWhile wt w ρ ⟨nx, rt, bk, ct, ex⟩ := ⟨I, ⟨m0, h0⟩, h⟩
theorem wtYes_i (q : Qb true) : wtYes ρ Qb E := q
abbrev S__law_pick : Prom := pickS
/-- one of the things -/
def someS : Prom where
  n := 2
  pre := fun xs => match xs with
    | [.bag, .d (.list ds)] => ds ≠ [] ∧ ds.length < 1000000
    | [.bag, .d (.tuple ds)] => ds ≠ [] ∧ ds.length < 1000000
    | _ => False
  post := fun xs z => match xs with
    | [.bag, .d (.list ds)] => ∃ d ∈ ds, z = .d d
    | [.bag, .d (.tuple ds)] => ∃ d ∈ ds, z = .d d
    | _ => False
abbrev S__law_some : Prom := someS
theorem callK_s (hx : x.arg = .d (.list ds)) (ho : x.isOw = false) (h : ds ≠ [] ∧ ds.length < 1000000) (q : ∀ d ∈ ds, Q (.d d)) : callK someS Q E [.bag, x] := by
  refine ⟨rfl, ?_, fun z hz => ?_, fun c hc => hc.elim⟩
  · show someS.pre [W.bag, x.arg]
    rw [hx]; exact h
  · have hz : someS.post [W.bag, x.arg] z := hz
    rw [hx] at hz
    obtain ⟨d, hd, rfl⟩ := hz
    refine ⟨fun h => ?_, q d hd⟩
    have h : (false || (x.isOw || false)) = true := h
    rw [ho] at h; cases h
theorem callK_st (h : ds ≠ [] ∧ ds.length < 1000000) (q : ∀ d ∈ ds, Q (.d d)) : callK someS Q E [.bag, .d (.tuple ds)] := by
  refine ⟨rfl, h, fun z hz => ?_, fun c hc => hc.elim⟩
  obtain ⟨d, hd, rfl⟩ := hz
  exact ⟨fun h => absurd h (by simp [List.any, W.isOw]), q d hd⟩
end
/-! steps by class -/
/-- A follows from B: the next step -/
class Stp (A : Prop) (B : outParam Prop) : Prop where
  go : B → A
theorem stp {A B : Prop} [s : Stp A B] (b : B) : A := s.go b
/-- a side question and the rest -/
structure Sd (C B : Prop) : Prop where
  c : C
  b : B
def asgK (nx : Rho → Prop) (ρ : Rho) (n : Nat) (z : W) : Prop := z.clnK fun d => nx (ρ.set n (some (.im d)))
def ownK (nx : Rho → Prop) (ρ : Rho) (n : Nat) (z : W) : Prop := z.frK fun xs => nx (ρ.set n (some (.ow xs)))
def asgPK (pt : Pt) (nx : Rho → Prop) (ρ : Rho) (z : W) : Prop := z.clnK fun d => pt.bind d ρ nx
def appK (nx : Rho → Prop) (ρ : Rho) (n : Nat) (ds : List D) (z : W) : Prop := z.clnK fun d => ds.length < big ∧ nx (ρ.set n (some (.ow (ds ++ [d]))))
def extK (nx : Rho → Prop) (ρ : Rho) (n : Nat) (ds : List D) (z : W) : Prop := z.lstK fun es => ds.length + es.length ≤ big ∧ nx (ρ.set n (some (.ow (ds ++ es))))
def setVK (nx : Rho → Prop) (ρ : Rho) (n : Nat) (wk : WE) (ex : Str → Rho → Prop) (z : W) : Prop := z.clnK fun d => owK ρ n fun ds => wk ρ (setK' nx ρ n ds d) (fun c => ex c ρ)
section
variable {ρ : Rho} {Q : W → Prop} {E : Str → Prop} {Qs : List W → Prop} {Qb : Bool → Prop} {wa wb wc : WE} {ws : WA} {wt wu : WT} {w u : WS} {nx bk ct : Rho → Prop} {rt : W → Prop} {ex : Str → Rho → Prop} {i j k : Int} {d e : D} {ds es : List D} {n : Nat} {x y : W}
instance i_wC_i  : Stp (wC d ρ Q E) (Q (.d d)) := ⟨wC_i⟩
instance i_w2_i {f : W → W → (W → Prop) → Prop} : Stp (w2 f wa wb ρ Q E) (wa ρ (fun x => wb ρ (fun y => f x y Q) E) E) := ⟨w2_i⟩
instance i_w1_i {f : W → (W → Prop) → Prop} : Stp (w1 f wa ρ Q E) (wa ρ (fun x => f x Q) E) := ⟨w1_i⟩
instance i_wAddA_i  : Stp (wAddA (.d (.int i)) (.d (.int j)) Q) (Q (.d (.int (i + j)))) := ⟨wAddA_i⟩
instance i_wAddA_t {a b : List D} : Stp (wAddA (.d (.tuple a)) (.d (.tuple b)) Q) (Sd (a.length + b.length ≤ big) (Q (.d (.tuple (a ++ b))))) := ⟨fun z => wAddA_t z.c z.b⟩
instance i_wAddA_s {a b : Str} : Stp (wAddA (.d (.str a)) (.d (.str b)) Q) (Sd (a.length + b.length ≤ big) (Q (.d (.str (a ++ b))))) := ⟨fun z => wAddA_s z.c z.b⟩
instance i_wSub_i  : Stp (wSub (.d (.int i)) (.d (.int j)) Q) (Q (.d (.int (i - j)))) := ⟨wSub_i⟩
instance i_wMulA_i  : Stp (wMulA (.d (.int i)) (.d (.int j)) Q) (Sd (MulOk i j) (Q (.d (.int (i * j))))) := ⟨fun z => wMulA_i z.c z.b⟩
instance i_wMulA_t {a : List D} : Stp (wMulA (.d (.tuple a)) (.d (.int k)) Q) (Sd (a ≠ [] ∧ 2 ≤ k ∧ k ≤ 1000 ∧ a.length ≤ 1000) (Q (.d (.tuple (List.replicate k.toNat a).flatten)))) := ⟨fun z => wMulA_t z.c z.b⟩
instance i_wDiv_i  : Stp (wDiv (.d (.int i)) (.d (.int j)) Q) (Sd (j ≠ 0 ∧ j.natAbs.log2 < 9000) (Q (.d (.int (i.fdiv j))))) := ⟨fun z => wDiv_i z.c z.b⟩
instance i_wMod_i  : Stp (wMod (.d (.int i)) (.d (.int j)) Q) (Sd (j ≠ 0) (Q (.d (.int (i.fmod j))))) := ⟨fun z => wMod_i z.c z.b⟩
instance i_wPow_i  : Stp (wPow (.d (.int i)) (.d (.int j)) Q) (Sd (0 ≤ j ∧ j ≤ 1000000 ∧ i.natAbs < 2 ^ 64) (Q (.d (.int (i ^ j.toNat))))) := ⟨fun z => wPow_i z.c z.b⟩
instance i_wShl_i  : Stp (wShl (.d (.int i)) (.d (.int j)) Q) (Sd (0 ≤ j ∧ j ≤ 1000000 ∧ i.natAbs < 2 ^ 64) (Q (.d (.int (i * 2 ^ j.toNat))))) := ⟨fun z => wShl_i z.c z.b⟩
instance i_wNegI_i  : Stp (wNegI (.d (.int i)) Q) (Q (.d (.int (-i)))) := ⟨wNegI_i⟩
instance i_wLtI_i  : Stp (wLtI (.d (.int i)) (.d (.int j)) Q) (Q (.d (.bool (decide (i < j))))) := ⟨wLtI_i⟩
instance i_wLeI_i  : Stp (wLeI (.d (.int i)) (.d (.int j)) Q) (Q (.d (.bool (decide (i ≤ j))))) := ⟨wLeI_i⟩
instance i_wGtI_i  : Stp (wGtI (.d (.int i)) (.d (.int j)) Q) (Q (.d (.bool (decide (j < i))))) := ⟨wGtI_i⟩
instance i_wGeI_i  : Stp (wGeI (.d (.int i)) (.d (.int j)) Q) (Q (.d (.bool (decide (j ≤ i))))) := ⟨wGeI_i⟩
instance i_wEq_i  : Stp (wEq (.d (.int i)) (.d (.int j)) Q) (Q (.d (.bool (decide (i = j))))) := ⟨wEq_i⟩
instance i_wNe_i  : Stp (wNe (.d (.int i)) (.d (.int j)) Q) (Q (.d (.bool (!decide (i = j))))) := ⟨wNe_i⟩
instance i_wEq_s {a b : Str} : Stp (wEq (.d (.str a)) (.d (.str b)) Q) (Q (.d (.bool (decide (a = b))))) := ⟨wEq_s⟩
instance i_wNe_s {a b : Str} : Stp (wNe (.d (.str a)) (.d (.str b)) Q) (Q (.d (.bool (!decide (a = b))))) := ⟨wNe_s⟩
instance i_wEq_b {a b : Bool} : Stp (wEq (.d (.bool a)) (.d (.bool b)) Q) (Q (.d (.bool (decide (a = b))))) := ⟨wEq_b⟩
instance i_wNe_b {a b : Bool} : Stp (wNe (.d (.bool a)) (.d (.bool b)) Q) (Q (.d (.bool (!decide (a = b))))) := ⟨wNe_b⟩
instance i_tst_i {b : Bool} : Stp (W.tst (.d (.bool b)) Qb) (Qb b) := ⟨tst_i⟩
instance i_wB_i  : Stp (wB wa ρ Qb E) (wa ρ (fun z => z.tst Qb) E) := ⟨wB_i⟩
instance i_wChain_i {f g : W → W → (W → Prop) → Prop} : Stp (wChain f g wa wb wc ρ Q E) (wa ρ (fun x => wb ρ (fun y => f x y fun z => z.tst fun k => if k = true then wc ρ (fun u => g y u Q) E else Q (.d (.bool false))) E) E) := ⟨wChain_i⟩
instance i_wtAnd_i  : Stp (wtAnd wt wu ρ Qb E) (wt ρ (fun b => if b = true then wu ρ Qb E else Qb false) E) := ⟨wtAnd_i⟩
instance i_wtOr_i  : Stp (wtOr wt wu ρ Qb E) (wt ρ (fun b => if b = true then Qb true else wu ρ Qb E) E) := ⟨wtOr_i⟩
instance i_wtNot_i  : Stp (wtNot wt ρ Qb E) (wt ρ (fun b => Qb (!b)) E) := ⟨wtNot_i⟩
instance i_wAndV_i  : Stp (wAndV wa wb ρ Q E) (wa ρ (fun z => z.tst fun k => if k = true then wb ρ Q E else Q (.d (.bool false))) E) := ⟨wAndV_i⟩
instance i_wOrV_i  : Stp (wOrV wa wb ρ Q E) (wa ρ (fun z => z.tst fun k => if k = true then Q (.d (.bool true)) else wb ρ Q E) E) := ⟨wOrV_i⟩
instance i_wNotV_i  : Stp (wNotV wa ρ Q E) (wa ρ (fun z => z.tst fun k => Q (.d (.bool (!k)))) E) := ⟨wNotV_i⟩
instance i_wIf_i  : Stp (wIf wt wa wb ρ Q E) (wt ρ (fun k => if k = true then wa ρ Q E else wb ρ Q E) E) := ⟨wIf_i⟩
instance i_waNil_i  : Stp (waNil ρ Qs E) (Qs []) := ⟨waNil_i⟩
instance i_waCons_i  : Stp (waCons wa ws ρ Qs E) (wa ρ (fun x => ws ρ (fun xs => Qs (x :: xs)) E) E) := ⟨waCons_i⟩
instance i_wTup_i  : Stp (wTup ws ρ Q E) (ws ρ (tupK Q) E) := ⟨wTup_i⟩
instance i_wLst_i  : Stp (wLst ws ρ Q E) (ws ρ (lstK' Q) E) := ⟨wLst_i⟩
instance i_woN_i {Qo : Option Int → Prop} : Stp (woN ρ Qo E) (Qo none) := ⟨woN_i⟩
instance i_woS_i {Qo : Option Int → Prop} : Stp (woS wa ρ Qo E) (wa ρ (woK Qo) E) := ⟨woS_i⟩
instance i_woK_i {Qo : Option Int → Prop} : Stp (woK Qo (.d (.int i))) (Qo (some i)) := ⟨woK_i⟩
instance i_wSl_i {wl wh : WO} : Stp (wSl wa wl wh ρ Q E) (wa ρ (fun x => wl ρ (fun l => wh ρ (fun h => slK Q x l h) E) E) E) := ⟨wSl_i⟩
instance i_slK_t {l h : Option Int} : Stp (slK Q (.d (.tuple ds)) l h) (Q (.d (.tuple (cutD ds l h)))) := ⟨slK_t⟩
instance i_wCB_i {f : List W → (W → Prop) → Prop} : Stp (wCB f ws ρ Q E) (ws ρ (fun xs => f xs Q) E) := ⟨wCB_i⟩
instance i_bLen_t  : Stp (bLen [.d (.tuple ds)] Q) (Q (.d (.int ds.length))) := ⟨bLen_t⟩
instance i_bLen_s {z : Str} : Stp (bLen [.d (.str z)] Q) (Sd (z.length ≤ big) (Q (.d (.int z.length)))) := ⟨fun z => bLen_s z.c z.b⟩
instance i_bAbs_i  : Stp (bAbs [.d (.int i)] Q) (Q (.d (.int (if i < 0 then -i else i)))) := ⟨bAbs_i⟩
instance i_bInt_i  : Stp (bInt [.d (.int i)] Q) (Q (.d (.int i))) := ⟨bInt_i⟩
instance i_bInt_b {b : Bool} : Stp (bInt [.d (.bool b)] Q) (Q (.d (.int (if b then 1 else 0)))) := ⟨bInt_b⟩
instance i_bMax2_i  : Stp (bMax2 [.d (.int i), .d (.int j)] Q) (Q (.d (.int (if j > i then j else i)))) := ⟨bMax2_i⟩
instance i_bMin2_i  : Stp (bMin2 [.d (.int i), .d (.int j)] Q) (Q (.d (.int (if j < i then j else i)))) := ⟨bMin2_i⟩
instance i_bTuple_t  : Stp (bTuple [.d (.tuple ds)] Q) (Q (.d (.tuple ds))) := ⟨bTuple_t⟩
instance i_bRepr_i  : Stp (bRepr [.d (.int i)] Q) (Sd (i.natAbs.log2 < 1920) (Q (.d (.str (PyData.int i).shown)))) := ⟨fun z => bRepr_i z.c z.b⟩
instance i_bRepr_t  : Stp (bRepr [.d (.tuple ds)] Q) (Sd (shOks ds = true ∧ Shp 59 (.tuple ds) ∧ shws ds ≤ 15999000) (Q (.d (.str (PyData.tuple ds).shown)))) := ⟨fun z => bRepr_t z.c z.b⟩
instance i_wIsi_i {T : String} : Stp (wIsi T wa ρ Q E) (wa ρ (isiK T Q) E) := ⟨wIsi_i⟩
instance i_wCall_i {Φ : Prom} : Stp (wCall Φ ws ρ Q E) (ws ρ (callK Φ Q E) E) := ⟨wCall_i⟩
instance i_wNext_i  : Stp (wNext ρ ⟨nx, rt, bk, ct, ex⟩) (nx ρ) := ⟨wNext_i⟩
instance i_wBrk_i  : Stp (wBrk ρ ⟨nx, rt, bk, ct, ex⟩) (bk ρ) := ⟨wBrk_i⟩
instance i_wCnt_i  : Stp (wCnt ρ ⟨nx, rt, bk, ct, ex⟩) (ct ρ) := ⟨wCnt_i⟩
instance i_wSeq_i  : Stp (wSeq w u ρ ⟨nx, rt, bk, ct, ex⟩) (w ρ ⟨fun ρ' => u ρ' ⟨nx, rt, bk, ct, ex⟩, rt, bk, ct, ex⟩) := ⟨wSeq_i⟩
instance i_wDrop_i  : Stp (wDrop wa ρ ⟨nx, rt, bk, ct, ex⟩) (wa ρ (fun _ => nx ρ) (fun c => ex c ρ)) := ⟨wDrop_i⟩
instance i_wRet_i  : Stp (wRet wa ρ ⟨nx, rt, bk, ct, ex⟩) (wa ρ (retK rt) (fun c => ex c ρ)) := ⟨wRet_i⟩
instance i_retK_d  : Stp (retK rt (.d d)) (rt (.d d)) := ⟨retK_d⟩
instance i_retK_f  : Stp (retK rt (.fr ds)) (rt (.fr ds)) := ⟨retK_f⟩
instance i_retK_o  : Stp (retK rt (.ow ds)) (rt (.fr ds)) := ⟨retK_o⟩
instance i_wRetN_i  : Stp (wRetN ρ ⟨nx, rt, bk, ct, ex⟩) (rt (.d .none)) := ⟨wRetN_i⟩
instance i_wIfS_i  : Stp (wIfS wt w u ρ ⟨nx, rt, bk, ct, ex⟩) (wt ρ (fun b => if b = true then w ρ ⟨nx, rt, bk, ct, ex⟩ else u ρ ⟨nx, rt, bk, ct, ex⟩) (fun c => ex c ρ)) := ⟨wIfS_i⟩
instance i_clnK_d {k : D → Prop} : Stp (W.clnK (.d d) k) (k d) := ⟨clnK_d⟩
instance i_clnK_f {k : D → Prop} : Stp (W.clnK (.fr ds) k) (k (.list ds)) := ⟨clnK_f⟩
instance i_frK_f {k : List D → Prop} : Stp (W.frK (.fr ds) k) (k ds) := ⟨frK_f⟩
instance i_wPar_i {m : Nat} : Stp (wPar n m ws ρ ⟨nx, rt, bk, ct, ex⟩) (ws ρ (parK nx ρ n m) (fun c => ex c ρ)) := ⟨wPar_i⟩
instance i_wParO_i {m : Nat} : Stp (wParO n m ws ρ ⟨nx, rt, bk, ct, ex⟩) (ws ρ (parOK nx ρ n m) (fun c => ex c ρ)) := ⟨wParO_i⟩
instance i_wRaise_i {c : Str} : Stp (wRaise c ρ ⟨nx, rt, bk, ct, ex⟩) (ex c ρ) := ⟨wRaise_i⟩
instance i_wiSeq_i {Ql : List D → Prop} : Stp (wiSeq wa ρ Ql E) (wa ρ (seqK Ql) E) := ⟨wiSeq_i⟩
instance i_wiR1_i {Ql : List D → Prop} : Stp (wiR1 ws ρ Ql E) (ws ρ (r1K Ql) E) := ⟨wiR1_i⟩
instance i_r1K_i {Ql : List D → Prop} : Stp (r1K Ql [.d (.int j)]) (Sd (-(2 ^ 62) ≤ j ∧ j < 2 ^ 62) (Ql (rangeD 0 j.toNat))) := ⟨fun z => r1K_i z.c z.b⟩
instance i_wiR2_i {Ql : List D → Prop} : Stp (wiR2 ws ρ Ql E) (ws ρ (r2K Ql) E) := ⟨wiR2_i⟩
instance i_r2K_i {Ql : List D → Prop} : Stp (r2K Ql [.d (.int i), .d (.int j)]) (Sd (-(2 ^ 62) ≤ i ∧ i < 2 ^ 62 ∧ -(2 ^ 62) ≤ j ∧ j < 2 ^ 62) (Ql (rangeD i (j - i).toNat))) := ⟨fun z => r2K_i z.c z.b⟩
instance i_wFor_k {pt : Pt} {wi : WI} : Stp (wFor pt wi w ρ ⟨nx, rt, bk, ct, ex⟩) (wi ρ (forK pt w ρ ⟨nx, rt, bk, ct, ex⟩) (fun c => ex c ρ)) := ⟨wFor_k⟩
instance i_wLc_i {pt : Pt} {vs : List Nat} {wi : WI} : Stp (wLc pt vs wi wt wa ρ Q E) (wi ρ (wLcK pt vs wt wa ρ Q) E) := ⟨wLc_i⟩
instance i_wtYes_i  : Stp (wtYes ρ Qb E) (Qb true) := ⟨wtYes_i⟩
class Wp (ρ : Rho) (vs : List Nat) (ρ' : outParam Rho) : Prop where
  eq : wipeR ρ vs = ρ'
class Su (ρ : Rho) (n : Nat) (v : Option En) (ρ' : outParam Rho) : Prop where
  eq : ρ.set n v = ρ'
instance wp_n : Wp ρ [] ρ := ⟨rfl⟩
instance wp_c {vs : List Nat} {ρ1 ρ2 : Rho} [h : Wp ρ vs ρ1] [h2 : Su ρ1 n none ρ2] : Wp ρ (n :: vs) ρ2 := ⟨by unfold wipeR; rw [h.eq, h2.eq]⟩
instance i_wipe {pt : Pt} {vs : List Nat} {ρ' : Rho} {N : Rho → Prop} [h : Wp ρ vs ρ'] : Stp (pt.bind d (wipeR ρ vs) N) (pt.bind d ρ' N) := ⟨fun q => by rw [h.eq]; exact q⟩
class Cl (xs : List W) (ds : outParam (List D)) : Prop where
  eq : clns xs = some ds
class Cn (x : W) (d : outParam D) : Prop where
  eq : x.cln = some d
instance cn_d : Cn (.d d) d := ⟨rfl⟩
instance cn_f : Cn (.fr ds) (.list ds) := ⟨rfl⟩
instance cl_n : Cl [] [] := ⟨rfl⟩
instance cl_c {xs : List W} [a : Cn x d] [b : Cl xs ds] : Cl (x :: xs) (d :: ds) := ⟨by unfold clns; rw [a.eq, b.eq]⟩
instance i_tupK {xs : List W} [h : Cl xs ds] : Stp (tupK Q xs) (Sd (ds.length ≤ big) (Q (.d (.tuple ds)))) := ⟨fun z => tupK_i h.eq z.c z.b⟩
instance i_lstK {xs : List W} [h : Cl xs ds] : Stp (lstK' Q xs) (Sd (ds.length ≤ big) (Q (.fr ds))) := ⟨fun z => lstK_i h.eq z.c z.b⟩
/-- a slot's look -/
class Lk (ρ : Rho) (n : Nat) (e : outParam (Option En)) : Prop where
  eq : ρ[n]? = some e
instance lk_0 {a : Option En} {t : Rho} : Lk (a :: t) 0 a := ⟨rfl⟩
instance lk_s {a e : Option En} {t : Rho} [h : Lk t n e] : Lk (a :: t) (n + 1) e := ⟨by rw [List.getElem?_cons_succ]; exact h.eq⟩
instance i_vd [h : Lk ρ n (some (.im d))] : Stp (wVar n ρ Q E) (Q (.d d)) := ⟨wVar_d h.eq⟩
instance i_vo [h : Lk ρ n (some (.ow ds))] : Stp (wVar n ρ Q E) (Q (.ow ds)) := ⟨wVar_o h.eq⟩
instance i_vb [h : Lk ρ n (some .bag)] : Stp (wVar n ρ Q E) (Q .bag) := ⟨wVar_b h.eq⟩
instance su_0 {a v : Option En} {t : Rho} : Su (a :: t) 0 v (v :: t) := ⟨rfl⟩
instance su_s {a v : Option En} {t t' : Rho} [h : Su t n v t'] : Su (a :: t) (n + 1) v (a :: t') := ⟨by rw [List.set_cons_succ, h.eq]⟩
instance i_asg : Stp (wAsg n wa ρ ⟨nx, rt, bk, ct, ex⟩) (wa ρ (asgK nx ρ n) (fun c => ex c ρ)) := ⟨fun q => q⟩
instance i_own : Stp (wOwn n wa ρ ⟨nx, rt, bk, ct, ex⟩) (wa ρ (ownK nx ρ n) (fun c => ex c ρ)) := ⟨fun q => q⟩
instance i_asgK {ρ' : Rho} [c : Cn x d] [h : Su ρ n (some (.im d)) ρ'] : Stp (asgK nx ρ n x) (nx ρ') := ⟨fun q => by unfold asgK W.clnK; rw [c.eq]; show nx (ρ.set n (some (.im d))); rw [h.eq]; exact q⟩
instance i_ownK {ρ' : Rho} [h : Su ρ n (some (.ow ds)) ρ'] : Stp (ownK nx ρ n (.fr ds)) (nx ρ') := ⟨fun q => by show nx (ρ.set n (some (.ow ds))); rw [h.eq]; exact q⟩
instance i_bindN {ρ' : Rho} {N : Rho → Prop} [h : Su ρ n (some (.im d)) ρ'] : Stp (Pt.bind (.nm n) d ρ N) (N ρ') := ⟨fun q => by show N (ρ.set n (some (.im d))); rw [h.eq]; exact q⟩
class SuA (is : List Nat) (ds : List D) (ρ : Rho) (ρ' : outParam Rho) : Prop where
  eq : ds.length = is.length ∧ setAll is ds ρ = ρ'
instance sua_n : SuA [] [] ρ ρ := ⟨rfl, rfl⟩
instance sua_c {is : List Nat} {ρ1 ρ2 : Rho} [h : Su ρ n (some (.im d)) ρ1] [h2 : SuA is ds ρ1 ρ2] : SuA (n :: is) (d :: ds) ρ ρ2 := ⟨by simp [h2.eq.1], by unfold setAll; rw [h.eq]; exact h2.eq.2⟩
instance i_bindT {is : List Nat} {ρ' : Rho} {N : Rho → Prop} [h : SuA is ds ρ ρ'] : Stp (Pt.bind (.tp is) (.tuple ds) ρ N) (N ρ') := ⟨fun q => ⟨h.eq.1, by rw [h.eq.2]; exact q⟩⟩
instance i_asgP {pt : Pt} : Stp (wAsgP pt wa ρ ⟨nx, rt, bk, ct, ex⟩) (wa ρ (asgPK pt nx ρ) (fun c => ex c ρ)) := ⟨fun q => q⟩
instance i_asgPK {pt : Pt} [c : Cn x d] : Stp (asgPK pt nx ρ x) (pt.bind d ρ nx) := ⟨fun q => by unfold asgPK W.clnK; rw [c.eq]; exact q⟩
instance i_rel {ρ' : Rho} [h : Lk ρ n (some (.ow ds))] [h2 : Su ρ n (some (.im (.list ds))) ρ'] : Stp (wRel n u ρ ⟨nx, rt, bk, ct, ex⟩) (u ρ' ⟨nx, rt, bk, ct, ex⟩) := ⟨fun q => wRel_i h.eq (by rw [h2.eq]; exact q)⟩
instance i_aug {f : Int → Int → Int} [h : Lk ρ n (some (.im (.int i)))] : Stp (wAug n f wa ρ ⟨nx, rt, bk, ct, ex⟩) (wa ρ (augK nx ρ n f i) (fun c => ex c ρ)) := ⟨fun q => wAug_i h.eq q⟩
instance i_augK2 {f : Int → Int → Int} {ρ' : Rho} [h : Su ρ n (some (.im (.int (f i j)))) ρ'] : Stp (augK nx ρ n f i (.d (.int j))) (nx ρ') := ⟨fun q => augK_i (by rw [h.eq]; exact q)⟩
instance i_parK {m : Nat} {ρ1 ρ2 : Rho} [a : Cn x d] [b : Cn y e] [h : Su ρ n (some (.im d)) ρ1] [h2 : Su ρ1 m (some (.im e)) ρ2] : Stp (parK nx ρ n m [x, y]) (nx ρ2) := ⟨fun q => parK_i a.eq b.eq (by rw [h.eq, h2.eq]; exact q)⟩
instance i_parOK {m : Nat} {ρ1 ρ2 : Rho} [h : Su ρ n (some (.ow ds)) ρ1] [h2 : Su ρ1 m (some (.im e)) ρ2] : Stp (parOK nx ρ n m [.fr ds, .d e]) (Sd (plainD e = true) (nx ρ2)) := ⟨fun q => parOK_i q.c (by rw [h.eq, h2.eq]; exact q.b)⟩
instance i_app [h : Lk ρ n (some (.ow ds))] : Stp (wApp n wa ρ ⟨nx, rt, bk, ct, ex⟩) (wa ρ (appK nx ρ n ds) (fun c => ex c ρ)) := ⟨fun q => wApp_i h.eq q⟩
instance i_appK {ρ' : Rho} [c : Cn x d] [h : Su ρ n (some (.ow (ds ++ [d]))) ρ'] : Stp (appK nx ρ n ds x) (Sd (ds.length < big) (nx ρ')) := ⟨fun q => by unfold appK W.clnK; rw [c.eq]; exact ⟨q.c, by rw [h.eq]; exact q.b⟩⟩
class Ls (x : W) (ds : outParam (List D)) : Prop where
  eq : x.dat = some (.list ds)
instance ls_d : Ls (.d (.list ds)) ds := ⟨rfl⟩
instance ls_f : Ls (.fr ds) ds := ⟨rfl⟩
instance ls_o : Ls (.ow ds) ds := ⟨rfl⟩
class Sq (x : W) (ds : outParam (List D)) : Prop where
  eq : x.dat.bind seqD = some ds
instance sq_l [h : Ls x ds] : Sq x ds := ⟨by rw [h.eq]; rfl⟩
instance sq_t : Sq (.d (.tuple ds)) ds := ⟨rfl⟩
instance i_ext [h : Lk ρ n (some (.ow ds))] : Stp (wExtend n wa ρ ⟨nx, rt, bk, ct, ex⟩) (wa ρ (extK nx ρ n ds) (fun c => ex c ρ)) := ⟨fun q => wExtend_i h.eq q⟩
instance i_extK {ρ' : Rho} [c : Ls x es] [h : Su ρ n (some (.ow (ds ++ es))) ρ'] : Stp (extK nx ρ n ds x) (Sd (ds.length + es.length ≤ big) (nx ρ')) := ⟨fun q => lstK_d c.eq ⟨q.c, by rw [h.eq]; exact q.b⟩⟩
instance i_set {wk : WE} : Stp (wSet n wa wk ρ ⟨nx, rt, bk, ct, ex⟩) (wa ρ (setVK nx ρ n wk ex) (fun c => ex c ρ)) := ⟨fun q => q⟩
instance i_setV {wk : WE} [c : Cn x d] [h : Lk ρ n (some (.ow ds))] : Stp (setVK nx ρ n wk ex x) (wk ρ (setK' nx ρ n ds d) (fun c => ex c ρ)) := ⟨fun q => by unfold setVK W.clnK; rw [c.eq]; exact owK_i h.eq q⟩
instance i_seqK {Ql : List D → Prop} {z : D} [c : Cn x z] [h : Sq (.d z) ds] : Stp (seqK Ql x) (Ql ds) := ⟨fun q => seqK_i (by rw [c.eq]; exact h.eq) q⟩
instance i_slL {l h : Option Int} [c : Ls x ds] : Stp (slK Q x l h) (Q (.fr (cutD ds l h))) := ⟨slK_l c.eq⟩
instance i_lenL [c : Ls x ds] : Stp (bLen [x] Q) (Q (.d (.int ds.length))) := ⟨bLen_l c.eq⟩
instance i_tupL [c : Ls x ds] : Stp (bTuple [x] Q) (Q (.d (.tuple ds))) := ⟨bTuple_l c.eq⟩
instance i_lstL [c : Sq x ds] : Stp (bList [x] Q) (Q (.fr ds)) := ⟨bList_i c.eq⟩
instance i_sumL [c : Ls x ds] : Stp (bSum [x] Q) (Sd (∀ d ∈ ds, isI d) (Q (.d (.int (ds.map asI).sum)))) := ⟨fun q => bSum_i c.eq q.c q.b⟩
instance i_allL [c : Ls x ds] : Stp (bAll [x] Q) (Sd (∀ d ∈ ds, isBl d) (Q (.d (.bool (ds.all asB))))) := ⟨fun q => bAll_i c.eq q.c q.b⟩
instance i_anyL [c : Ls x ds] : Stp (bAny [x] Q) (Sd (∀ d ∈ ds, isBl d) (Q (.d (.bool (ds.any asB))))) := ⟨fun q => bAny_i c.eq q.c q.b⟩
instance i_reprL [c : Ls x ds] : Stp (bRepr [x] Q) (Sd (shOks ds = true ∧ Shp 59 (.list ds) ∧ shws ds ≤ 15999000) (Q (.d (.str (PyData.list ds).shown)))) := ⟨fun q => bRepr_l c.eq q.c q.b⟩
instance i_addL {a b : List D} [c : Ls x a] [e : Ls y b] : Stp (wAddA x y Q) (Sd (a.length + b.length ≤ big) (Q (.fr (a ++ b)))) := ⟨fun q => wAddA_l c.eq e.eq q.c q.b⟩
instance i_mulL {a : List D} [c : Ls x a] : Stp (wMulA x (.d (.int k)) Q) (Sd (a.length * k.toNat ≤ big ∧ -(2 ^ 63) ≤ k ∧ k < 2 ^ 63) (Q (.fr (List.replicate k.toNat a).flatten))) := ⟨fun q => wMulA_l c.eq q.c q.b⟩
class Dt (x : W) (d : outParam D) : Prop where
  eq : x.dat = some d
instance dt_d : Dt (.d d) d := ⟨rfl⟩
instance dt_f : Dt (.fr ds) (.list ds) := ⟨rfl⟩
instance dt_o : Dt (.ow ds) (.list ds) := ⟨rfl⟩
class Pl (d : D) : Prop where
  eq : plainS d = true
instance pl_l : Pl (.list ds) := ⟨rfl⟩
instance pl_t : Pl (.tuple ds) := ⟨rfl⟩
instance pl_n : Pl .none := ⟨rfl⟩
instance i_eqQ [a : Dt x d] [b : Dt y e] [p : Pl d] : Stp (wEq x y Q) (Sd (Shp 60 d ∧ Shp 60 e) (Q (.d (.bool (PyData.eqv d e))))) := ⟨fun q => wEq_q a.eq b.eq p.eq q.c q.b⟩
instance i_neQ [a : Dt x d] [b : Dt y e] [p : Pl d] : Stp (wNe x y Q) (Sd (Shp 60 d ∧ Shp 60 e) (Q (.d (.bool (!PyData.eqv d e))))) := ⟨fun q => wNe_q a.eq b.eq p.eq q.c q.b⟩
instance i_isN [a : Dt x d] : Stp (wIsN x (.d .none) Q) (Q (.d (.bool (isNon d)))) := ⟨wIsN_i a.eq⟩
instance i_notN [a : Dt x d] : Stp (wNotN x (.d .none) Q) (Q (.d (.bool (!isNon d)))) := ⟨wNotN_i a.eq⟩
class Nk (d : D) : Prop where
  eq : noDict d = true
instance nk_n : Nk .none := ⟨rfl⟩
instance nk_b {b : Bool} : Nk (.bool b) := ⟨rfl⟩
instance nk_i : Nk (.int i) := ⟨rfl⟩
instance nk_s {b : Str} : Nk (.str b) := ⟨rfl⟩
instance nk_l : Nk (.list ds) := ⟨rfl⟩
instance nk_t : Nk (.tuple ds) := ⟨rfl⟩
instance (priority := low) i_isiK {T : String} [a : Dt x d] : Stp (isiK T Q x) (Sd (noDict d = true) (Q (.d (.bool (isTy T d))))) := ⟨fun z => isiK_i a.eq z.c z.b⟩
instance i_isiK2 {T : String} [a : Dt x d] [n : Nk d] : Stp (isiK T Q x) (Q (.d (.bool (isTy T d)))) := ⟨isiK_i a.eq n.eq⟩
instance i_in {neg : Bool} [a : Dt x d] [b : Sq y ds] : Stp (wIn neg x y Q) (Sd (flatD d = true ∧ ∀ d ∈ ds, flatD d = true) (Q (.d (.bool (if neg then !inD d ds else inD d ds))))) := ⟨fun q => wIn_i a.eq b.eq q.c q.b⟩
instance i_ixZ {a : D} [c : Sq x (a :: ds)] : Stp (wIx x (.d (.int 0)) Q) (Q (.d a)) := ⟨wIx_i c.eq (by unfold L2.atI ixN; rw [if_pos (by decide), if_pos (by first | (simp; done) | (simp; omega))]; rfl)⟩
instance i_iteT {A B : Prop} {h : Decidable (true = true)} : Stp (@ite Prop (true = true) h A B) A := ⟨fun q => by rw [if_pos rfl]; exact q⟩
instance i_iteF {A B : Prop} {h : Decidable (false = true)} : Stp (@ite Prop (false = true) h A B) B := ⟨fun q => by rw [if_neg Bool.false_ne_true]; exact q⟩
instance i_pick {m : Int} : Stp (callK pickS Q E [.bag, .d (.int m)]) (Sd (0 < m ∧ m < 2 ^ 200) (∀ r : Int, 0 ≤ r → r < m → Q (.d (.int r)))) := ⟨fun q => callK_pb q.c q.b⟩
instance i_someD : Stp (callK someS Q E [.bag, .d (.list ds)]) (Sd (ds ≠ [] ∧ ds.length < 1000000) (∀ d ∈ ds, Q (.d d))) := ⟨fun q => callK_s rfl rfl q.c q.b⟩
instance i_someF : Stp (callK someS Q E [.bag, .fr ds]) (Sd (ds ≠ [] ∧ ds.length < 1000000) (∀ d ∈ ds, Q (.d d))) := ⟨fun q => callK_s rfl rfl q.c q.b⟩
instance i_someT : Stp (callK someS Q E [.bag, .d (.tuple ds)]) (Sd (ds ≠ [] ∧ ds.length < 1000000) (∀ d ∈ ds, Q (.d d))) := ⟨fun q => callK_st q.c q.b⟩
end
end R
namespace R
open PySem PySem.Spec PyProof.Rows L2 RZ
set_option autoImplicit false
/-! ### 24. enumerate, zip -/
def enumD (ds : List D) : List D := ds.mapIdx fun i d => .tuple [.int (i : Nat), d]
def zipD (ds es : List D) : List D := (ds.zip es).map fun p => .tuple [p.1, p.2]
@[simp] theorem enumD_len {ds : List D} : (enumD ds).length = ds.length := by simp [enumD]
@[simp] theorem zipD_len {ds es : List D} : (zipD ds es).length = min ds.length es.length := by simp [zipD]
theorem enumD_at {ds : List D} {i : Nat} {d : D} (h : ds[i]? = some d) : (enumD ds)[i]? = some (.tuple [.int (i : Nat), d]) := by
  unfold enumD
  rw [List.getElem?_mapIdx, h]
  rfl
theorem enumD_get {ds : List D} {i : Nat} {z : D} (h : (enumD ds)[i]? = some z) : ∃ d, ds[i]? = some d ∧ z = .tuple [.int (i : Nat), d] := by
  unfold enumD at h
  rw [List.getElem?_mapIdx] at h
  cases q : ds[i]? with
  | none => rw [q] at h; cases h
  | some d => rw [q] at h; exact ⟨d, rfl, (Option.some.inj h).symm⟩
theorem zipD_at {ds es : List D} {i : Nat} {d e : D} (h : ds[i]? = some d) (h2 : es[i]? = some e) : (zipD ds es)[i]? = some (.tuple [d, e]) := by
  unfold zipD
  rw [List.getElem?_map, (List.getElem?_zip_eq_some (z := (d, e))).mpr ⟨h, h2⟩]
  rfl
theorem zipD_get {ds es : List D} {i : Nat} {z : D} (h : (zipD ds es)[i]? = some z) : ∃ d e, ds[i]? = some d ∧ es[i]? = some e ∧ z = .tuple [d, e] := by
  unfold zipD at h
  rw [List.getElem?_map] at h
  cases q : (ds.zip es)[i]? with
  | none => rw [q] at h; cases h
  | some p =>
    rw [q] at h
    obtain ⟨h1, h2⟩ := List.getElem?_zip_eq_some.mp q
    exact ⟨p.1, p.2, h1, h2, (Option.some.inj h).symm⟩
section
variable {X : Cx} {ec : Str → Addr} {a b : Expr} {wa wb : WE} {pos : Pos}
theorem new_pair {K : PySem.W.Frag} {Av : Addr → Prop} {H : Hp} {T : Addr} {x y : V} {d e : D} (hd : ∀ a, Av a → ¬ No H a) (hT : H T = none) (r1 : Rp K Av H x d) (r2 : Rp K Av H y e) :
    (∀ a u, H a = some u → upd H T (.tup [x, y]) a = some u) ∧ Rp K Av (upd H T (.tup [x, y])) (.ref T) (.tuple [d, e]) := by
  have k : ∀ a u, H a = some u → upd H T (.tup [x, y]) a = some u := fun a u e => by rw [upd_ne (ne_of_none e hT)]; exact e
  have up : ∀ {v : V} {d : D}, Rp K Av H v d → Rp K Av (upd H T (.tup [x, y])) v d := fun {v d} r => Rp.mono (fun _ z => .inl z) (fun a u _ _ e => k a u e) d v r
  exact ⟨k, .tup (.inl ⟨fun z => hd T z (No.of hT), upd_same⟩) (.cons (up r1) (.cons (up r2) .nil))⟩
theorem walk_enum {K : PySem.W.Frag} {a : Addr} {ds : List D} : Walks K (Ite K a) (fun Av H => Rp K Av H (.ref a) (.list ds)) (enumD ds) where
  keep := fun _ _ _ _ p g => g _ _ p
  item := fun i Av H hd p hi => by
    rw [enumD_len] at hi
    cases p with
    | lst na h1 r =>
      rename_i xs
      have hx : xs[i]? = some (xs[i]'(by rw [r.length]; exact hi)) := by simp [r.length, hi]
      refine ⟨⟨xs, _, SqL.of h1, hx⟩, fun x H' y => ?_⟩
      obtain ⟨T, x, rfl, hT, rfl, y⟩ := y
      obtain ⟨d, e1, e2⟩ := r.getV (y xs (SqL.of h1))
      obtain ⟨k, q⟩ := new_pair hd hT (.int (i : Nat)) e2
      exact ⟨k, _, enumD_at e1, q⟩
  stop := fun Av H p => by
    cases p with
    | lst na h1 r =>
      rename_i xs
      exact ⟨xs, SqL.of h1, by rw [r.length]; simp⟩
def wiEnum (wa : WE) : WI := fun ρ Q E => wa ρ (fun z => match z.cln with
  | some (.list ds) => Q (enumD ds)
  | _ => False) E
theorem si_enum {p tpos : Pos} {elts : List Expr} {kk : Nat} (hg : Gl X "enumerate") (hm : X.mg "enumerate" = none) (ha : SimE X ec a wa) (hs : starEach [a] X.env = [(false, eval a X.env)] := by rfl) :
    SimI X ec (.Tuple elts kk tpos) (.Call (.Name "enumerate" p) [a] [] pos) (wiEnum wa) := by
  refine ⟨fun G σ H ρ Q E hK s t h => piu (pi_enum hg hm (pa_cons peU pa_nil hs) hs) ?_⟩
  refine (ha.run G σ H ρ _ E hK s t h).mono fun v H1 ⟨x, e, r, q⟩ => ?_
  split at q
  · rename_i ds ec
    have rd := r.cln s ec
    cases rd with
    | lst na h1 rr => exact ⟨_, _, rfl, SqL.of h1, enumD ds, _, e, walk_enum, hK ▸ .lst na h1 rr, q⟩
  · exact q.elim
theorem walk_zip {K : PySem.W.Frag} {a b : Addr} {ds es : List D} : Walks K (Itz K a b) (fun Av H => Rp K Av H (.ref a) (.list ds) ∧ Rp K Av H (.ref b) (.list es)) (zipD ds es) where
  keep := fun _ _ _ _ p g => ⟨g _ _ p.1, g _ _ p.2⟩
  item := fun i Av H hd p hi => by
    rw [zipD_len] at hi
    obtain ⟨p1, p2⟩ := p
    cases p1 with
    | lst na h1 r =>
      cases p2 with
      | lst na2 h2 r2 =>
        rename_i xs ys
        have hx : xs[i]? = some (xs[i]'(by rw [r.length]; omega)) := by simp [r.length]; try omega
        have hy : ys[i]? = some (ys[i]'(by rw [r2.length]; omega)) := by simp [r2.length]; try omega
        refine ⟨⟨xs, ys, _, _, SqL.of h1, SqL.of h2, hx, hy⟩, fun x H' y => ?_⟩
        obtain ⟨T, x, y', rfl, hT, rfl, y1, y2⟩ := y
        obtain ⟨d, e1, e2⟩ := r.getV (y1 xs (SqL.of h1))
        obtain ⟨d', e1', e2'⟩ := r2.getV (y2 ys (SqL.of h2))
        obtain ⟨k, q⟩ := new_pair hd hT e2 e2'
        exact ⟨k, _, zipD_at e1 e1', q⟩
  stop := fun Av H p => by
    obtain ⟨p1, p2⟩ := p
    cases p1 with
    | lst na h1 r =>
      cases p2 with
      | lst na2 h2 r2 =>
        rename_i xs ys
        exact ⟨xs, ys, SqL.of h1, SqL.of h2, by rw [r.length, r2.length, zipD_len]; omega⟩
theorem walk_zipT {K : PySem.W.Frag} {a b : Addr} {ds es : List D} : Walks K (ItzT K a b) (fun Av H => Rp K Av H (.ref a) (.tuple ds) ∧ Rp K Av H (.ref b) (.tuple es)) (zipD ds es) where
  keep := fun _ _ _ _ p g => ⟨g _ _ p.1, g _ _ p.2⟩
  item := fun i Av H hd p hi => by
    rw [zipD_len] at hi
    obtain ⟨p1, p2⟩ := p
    cases p1 with
    | tup h1 r =>
      cases p2 with
      | tup h2 r2 =>
        rename_i xs ys
        have s1 : SqT K H a xs := h1.elim (fun q => SqT.of q.2) .inr
        have s2 : SqT K H b ys := h2.elim (fun q => SqT.of q.2) .inr
        have hx : xs[i]? = some (xs[i]'(by rw [r.length]; omega)) := by simp [r.length]; try omega
        have hy : ys[i]? = some (ys[i]'(by rw [r2.length]; omega)) := by simp [r2.length]; try omega
        refine ⟨⟨xs, ys, _, _, s1, s2, hx, hy⟩, fun x H' y => ?_⟩
        obtain ⟨T, x, y', rfl, hT, rfl, y1, y2⟩ := y
        obtain ⟨d, e1, e2⟩ := r.getV (y1 xs s1)
        obtain ⟨d', e1', e2'⟩ := r2.getV (y2 ys s2)
        obtain ⟨k, q⟩ := new_pair hd hT e2 e2'
        exact ⟨k, _, zipD_at e1 e1', q⟩
  stop := fun Av H p => by
    obtain ⟨p1, p2⟩ := p
    cases p1 with
    | tup h1 r =>
      cases p2 with
      | tup h2 r2 =>
        rename_i xs ys
        exact ⟨xs, ys, h1.elim (fun q => SqT.of q.2) .inr, h2.elim (fun q => SqT.of q.2) .inr, by rw [r.length, r2.length, zipD_len]; omega⟩
def wiZip (wa wb : WE) : WI := fun ρ Q E => wa ρ (fun z => wb ρ (fun y => match z.cln, y.cln with
  | some (.list ds), some (.list es) => Q (zipD ds es)
  | some (.tuple ds), some (.tuple es) => Q (zipD ds es)
  | _, _ => False) E) E
theorem si_zip {p tpos : Pos} {elts : List Expr} {kk : Nat} (hg : Gl X "zip") (hm : X.mg "zip" = none) (ha : SimE X ec a wa) (hb : SimE X ec b wb) (hs : starEach [a, b] X.env = (false, eval a X.env) :: starEach [b] X.env := by rfl) (hs2 : starEach [b] X.env = [(false, eval b X.env)] := by rfl)
    (hpl : (backTo pos (starEach [b] X.env)).any (·.1) = false := by rfl) : SimI X ec (.Tuple elts kk tpos) (.Call (.Name "zip" p) [a, b] [] pos) (wiZip wa wb) := by
  refine ⟨fun G σ H ρ Q E hK s t h => piu (pi_zipA hg hm (pa_cons peU (pa_cons peU pa_nil hs2) hs) hs hpl) ?_⟩
  refine (ha.run G σ H ρ _ E hK s t h).mono fun v H1 ⟨x, e, r, q⟩ => ?_
  have s1 := s.ext e
  refine (hb.run G σ H1 ρ _ E hK s1 (t.go e) q).mono fun u H2 ⟨y, e2, r2, q⟩ => ?_
  split at q
  · rename_i ds es ec1 ec2
    have rd := (r.ext s e2).cln s ec1
    have rd2 := r2.cln s1 ec2
    cases rd with
    | lst na h1 rr =>
      cases rd2 with
      | lst na2 h2 rr2 => exact ⟨_, _, _, _, rfl, .inl ⟨SqL.of h1, SqL.of h2, zipD ds es, _, e.trans e2, walk_zip, hK ▸ ⟨.lst na h1 rr, .lst na2 h2 rr2⟩, q⟩⟩
  · rename_i ds es ec1 ec2
    have rd := (r.ext s e2).cln s ec1
    have rd2 := r2.cln s1 ec2
    cases rd with
    | tup h1 rr =>
      cases rd2 with
      | tup h2 rr2 => exact ⟨_, _, _, _, rfl, .inr ⟨h1.elim (fun q => SqT.of q.2) (fun k => .inr (hK ▸ k)), h2.elim (fun q => SqT.of q.2) (fun k => .inr (hK ▸ k)), zipD ds es, _, e.trans e2, walk_zipT, hK ▸ ⟨.tup h1 rr, .tup h2 rr2⟩, q⟩⟩
  · exact q.elim
end
section
variable {ρ : Rho} {E : Str → Prop} {wa wb : WE} {Ql : List D → Prop} {x y : W} {ds es : List D}
def enumK (Q : List D → Prop) (z : W) : Prop := match z.cln with
  | some (.list ds) => Q (enumD ds)
  | _ => False
def zipK (Q : List D → Prop) (z y : W) : Prop := match z.cln, y.cln with
  | some (.list ds), some (.list es) => Q (zipD ds es)
  | some (.tuple ds), some (.tuple es) => Q (zipD ds es)
  | _, _ => False
instance i_wiEnum : Stp (wiEnum wa ρ Ql E) (wa ρ (enumK Ql) E) := ⟨fun q => q⟩
instance i_enumK [c : Cn x (.list ds)] : Stp (enumK Ql x) (Ql (enumD ds)) := ⟨fun q => by unfold enumK; rw [c.eq]; exact q⟩
instance i_wiZip : Stp (wiZip wa wb ρ Ql E) (wa ρ (fun z => wb ρ (fun y => zipK Ql z y) E) E) := ⟨fun q => q⟩
instance i_zipL [c : Cn x (.list ds)] [c2 : Cn y (.list es)] : Stp (zipK Ql x y) (Ql (zipD ds es)) := ⟨fun q => by unfold zipK; rw [c.eq, c2.eq]; exact q⟩
instance i_zipT : Stp (zipK Ql (.d (.tuple ds)) (.d (.tuple es))) (Ql (zipD ds es)) := ⟨fun q => q⟩
end
/-! ### 25. three stores at once -/
section
variable {X : Cx} {ec : Str → Addr} {a b c : Expr} {ws : WA} {pos : Pos}
theorem WRs.three {G : Gh} {σ : St} {H H' : Hp} {ρ : Rho} {vs : List V} {x y z : W} (h : WRs G ρ σ H H' vs [x, y, z]) : ∃ v u t, vs = [v, u, t] ∧ WR G ρ σ H H' v x ∧ WR G ρ σ H H' u y ∧ WR G ρ σ H H' t z := by
  cases h with
  | cons r t =>
    cases t with
    | cons r2 t =>
      cases t with
      | cons r3 t => cases t; exact ⟨_, _, _, rfl, r, r2, r3⟩
def wPar3 (i j l : Nat) (ws : WA) : WS := fun ρ O => ws ρ (fun xs => match xs with
  | [x, y, z] => (match x.cln, y.cln, z.cln with
    | some d, some e, some f => O.nx (((ρ.set i (some (.im d))).set j (some (.im e))).set l (some (.im f)))
    | _, _, _ => False)
  | _ => False) (fun c => O.ex c ρ)
def wPar3O (i j l : Nat) (ws : WA) : WS := fun ρ O => ws ρ (fun xs => match xs with
  | [.fr ds, .d e, .d f] => plainD e = true ∧ plainD f = true ∧ O.nx (((ρ.set i (some (.ow ds))).set j (some (.im e))).set l (some (.im f)))
  | _ => False) (fun c => O.ex c ρ)
section
variable {i j l : Nat} {x y z : Str} {px py pz pt : Pos} {kt k2 : Nat} {pt2 : Pos}
theorem s_par3 (hc : X.calm = true) (hN : X.N.Nodup) (hi : X.N[i]? = some x) (hj : X.N[j]? = some y) (hl : X.N[l]? = some z) (hij : i ≠ j) (hil : i ≠ l) (hjl : j ≠ l)
    (hx : X.env.scope.names.lookup x = some .local) (hy : X.env.scope.names.lookup y = some .local) (hz : X.env.scope.names.lookup z = some .local) (ha : SimA X ec [a, b, c] ws)
    (hw : swappedStores [.Tuple [.Name x px, .Name y py, .Name z pz] kt pt] (.Tuple [a, b, c] k2 pt2) X.env = pure (some [x, y, z])) (hs : swapsWithSole [.Tuple [.Name x px, .Name y py, .Name z pz] kt pt] (.Tuple [a, b, c] k2 pt2) pos.line X.env = pure false := by rfl) :
    SimS X ec (.Assign [.Tuple [.Name x px, .Name y py, .Name z pz] kt pt] (.Tuple [a, b, c] k2 pt2) pos) (wPar3 i j l ws) := by
  refine ⟨fun G σ H ρ O D hK s t en h => psu (ps_par3 hc hN hi hj hl hij hil hjl hx hy hz paU hw hs) ((ha.at hK s t h).mono fun vs H' ⟨xs, rt, q⟩ => ?_)⟩
  split at q
  · obtain ⟨v, u, w, ev, r1, r2, r3⟩ := (rt.wrs s).three
    split at q
    · rename_i d e f e1 e2 e3
      have x := rt.ext
      have g1 : Go G ρ σ H (ρ.set i (some (.im d))) (σ.set i (some v)) H' := (Go.ext x).trans Go.set
      have g2 : Go G ρ σ H ((ρ.set i (some (.im d))).set j (some (.im e))) ((σ.set i (some v)).set j (some u)) H' := g1.trans Go.set
      exact ⟨v, u, w, ev, en.nx _ H' _ ((((s.ext x).set (r1.cln s e1)).set (Go.set _ _ (r2.cln s e2))).set ((Go.set.trans Go.set) _ _ (r3.cln s e3))) (g2.trans Go.set) q⟩
    · exact q.elim
  · exact q.elim
theorem s_par3O (hc : X.calm = true) (hN : X.N.Nodup) (hi : X.N[i]? = some x) (hj : X.N[j]? = some y) (hl : X.N[l]? = some z) (hij : i ≠ j) (hil : i ≠ l) (hjl : j ≠ l)
    (hx : X.env.scope.names.lookup x = some .local) (hy : X.env.scope.names.lookup y = some .local) (hz : X.env.scope.names.lookup z = some .local) (ha : SimA X ec [a, b, c] ws)
    (hw : swappedStores [.Tuple [.Name x px, .Name y py, .Name z pz] kt pt] (.Tuple [a, b, c] k2 pt2) X.env = pure (some [x, y, z])) (hs : swapsWithSole [.Tuple [.Name x px, .Name y py, .Name z pz] kt pt] (.Tuple [a, b, c] k2 pt2) pos.line X.env = pure false := by rfl) :
    SimS X ec (.Assign [.Tuple [.Name x px, .Name y py, .Name z pz] kt pt] (.Tuple [a, b, c] k2 pt2) pos) (wPar3O i j l ws) := by
  refine ⟨fun G σ H ρ O D hK s t en h => psu (ps_par3 hc hN hi hj hl hij hil hjl hx hy hz paU hw hs) ((ha.at hK s t h).mono fun vs H' ⟨xs, rt, q⟩ => ?_)⟩
  split at q
  · rename_i ds e f
    obtain ⟨v, u, w, ev, r1, r2, r3⟩ := (rt.wrs s).three
    obtain ⟨q1, q2, q⟩ := q
    have x := rt.ext
    obtain ⟨p, us, ep, h1, h2, h3⟩ := r1
    subst ep
    have s1 := s.own (i := i) x h1 h2 h3
    have pl : ∀ {d : R.D} {v : V}, plainD d = true → Rp G.K (G.av ρ σ) H' v d → Rp G.K (G.av (ρ.set i (some (.ow ds))) (σ.set i (some (.ref p)))) H' v d := fun {d v} hp r => Rp.plain (fun a z => (av_own z).imp id fun e => by rw [e]; exact ⟨us, h2⟩) d v hp r
    have s2 := s1.set (i := j) (pl q1 r2)
    have s3 := s2.set (i := l) (Go.set _ _ (pl q2 r3))
    exact ⟨_, u, w, ev, en.nx _ H' _ s3 (((Go.own x h1).trans Go.set).trans Go.set) q⟩
  · exact q.elim
end
end
section
variable {ρ : Rho} {E : Str → Prop} {ws : WA} {nx bk ct : Rho → Prop} {rt : W → Prop} {ex : Str → Rho → Prop} {i j l : Nat} {x y z : W} {d e f : D} {ds : List D} {ρ1 ρ2 ρ3 : Rho}
def par3K (nx : Rho → Prop) (ρ : Rho) (i j l : Nat) (xs : List W) : Prop := match xs with
  | [x, y, z] => (match x.cln, y.cln, z.cln with
    | some d, some e, some f => nx (((ρ.set i (some (.im d))).set j (some (.im e))).set l (some (.im f)))
    | _, _, _ => False)
  | _ => False
def par3OK (nx : Rho → Prop) (ρ : Rho) (i j l : Nat) (xs : List W) : Prop := match xs with
  | [.fr ds, .d e, .d f] => plainD e = true ∧ plainD f = true ∧ nx (((ρ.set i (some (.ow ds))).set j (some (.im e))).set l (some (.im f)))
  | _ => False
instance i_wPar3 : Stp (wPar3 i j l ws ρ ⟨nx, rt, bk, ct, ex⟩) (ws ρ (par3K nx ρ i j l) (fun c => ex c ρ)) := ⟨fun q => q⟩
instance i_wPar3O : Stp (wPar3O i j l ws ρ ⟨nx, rt, bk, ct, ex⟩) (ws ρ (par3OK nx ρ i j l) (fun c => ex c ρ)) := ⟨fun q => q⟩
instance i_par3K [a : Cn x d] [b : Cn y e] [c : Cn z f] [h : Su ρ i (some (.im d)) ρ1] [h2 : Su ρ1 j (some (.im e)) ρ2] [h3 : Su ρ2 l (some (.im f)) ρ3] : Stp (par3K nx ρ i j l [x, y, z]) (nx ρ3) := ⟨fun q => by unfold par3K; simp only [a.eq, b.eq, c.eq]; rw [h.eq, h2.eq, h3.eq]; exact q⟩
instance i_par3OK [h : Su ρ i (some (.ow ds)) ρ1] [h2 : Su ρ1 j (some (.im e)) ρ2] [h3 : Su ρ2 l (some (.im f)) ρ3] : Stp (par3OK nx ρ i j l [.fr ds, .d e, .d f]) (Sd (plainD e = true ∧ plainD f = true) (nx ρ3)) := ⟨fun q => by show plainD e = true ∧ plainD f = true ∧ nx (((ρ.set i (some (.ow ds))).set j (some (.im e))).set l (some (.im f))); rw [h.eq, h2.eq, h3.eq]; exact ⟨q.c.1, q.c.2, q.b⟩⟩
end
/-! ### 26. a list from behind; texts as constants of the module -/
section
variable {X : Cx} {ec : Str → Addr} {a : Expr} {wa : WE} {pos : Pos}
def revK (Q : W → Prop) (z : W) : Prop := match z.dat with
  | some (.list ds) => Q (.fr ds.reverse)
  | _ => False
def wRev (wa : WE) : WE := fun ρ Q E => wa ρ (revK Q) E
theorem sim_rev {k : Nat} {p1 p2 p3 : Pos} (ha : SimE X ec a wa) : SimE X ec (.Subscript a (.Slice none none (some (.UnaryOp .USub (.Constant (.int 1) k p1) p2)) p3) pos) (wRev wa) := by
  refine ⟨fun G σ H ρ Q E hK s t h => peu (pe_revL peU) ?_⟩
  refine (ha.run G σ H ρ _ E hK s t h).mono fun v H1 ⟨x, e1, r1, h1⟩ => ?_
  unfold revK at h1
  split at h1
  · rename_i ds e
    obtain ⟨p, vs, rfl, hp, r⟩ := r1.lst e
    refine ⟨p, vs, rfl, SqL.of hp, fun q hq => ?_⟩
    obtain ⟨x1, y1⟩ := newLst s e1 hq r.reverse
    exact ⟨_, x1, y1, h1⟩
  · exact h1.elim
end
section
variable {ρ : Rho} {E : Str → Prop} {Q : W → Prop} {wa : WE} {x : W} {ds : List D}
instance i_wRev : Stp (wRev wa ρ Q E) (wa ρ (revK Q) E) := ⟨fun q => q⟩
instance i_revK [c : Ls x ds] : Stp (revK Q x) (Q (.fr ds.reverse)) := ⟨fun q => by unfold revK; rw [c.eq]; exact q⟩
end
theorem ite_nqL {a b : D} {A B : Prop} (h : PyData.eqv a b = true) (q : B) : if (!PyData.eqv a b) = true then A else B := by rw [h]; exact q
end R
namespace R
open PySem PySem.Spec PyProof.Rows L2 RZ
open AutoSeq1 (wpAny_loadPart')
set_option autoImplicit false
/-! ### 30. enumerate over a tuple -/
theorem enum_newT (l : Addr) (items : Array Value) (n : Nat) (dct : Option Addr) (sl : Array (Option Value)) :
    Meets (Builtin.«enumerate.__new__» ⟨[.type "enumerate", .ref l], []⟩) (fun _ R s => s.heap.get? l = some { cls := .type "tuple", dict := dct, data := .seq items n, slots := sl } ∧
      R (.ok (.ret (.ref (s.heap.push { cls := .type "tuple_iterator", data := .fields #[.ref l, .int 0 0] }).objs.size)))
        { s with heap := (s.heap.push { cls := .type "tuple_iterator", data := .fields #[.ref l, .int 0 0] }).push { cls := .type "enumerate", data := .fields #[.none, .bool false, .ref s.heap.objs.size, rawInt 0, .none, .none] } }) :=
  .of_wp fun prog w A R s h => by
    obtain ⟨hp, g, d, tk, os⟩ := s
    obtain ⟨hl, h⟩ := h
    have hs := PySem.sub_enumerate
    have hT : Heap.IsTuple (Shared.heap ⟨hp, g, d, tk, os⟩) l items := ⟨_, hl, rfl, n, rfl⟩
    wp_walk using wpAny_loadPart' hl
    refine wpAny_stack_any fun st => wpAny_pure ?_
    split
    · rename_i c _ _ _ _ _
      cases (c == Value.type "enumerate") <;> (wp_walk using wpAny_loadPart' hl, wpAny_pyIter_tuple hT; exact ⟨_, rfl, h⟩)
    · wp_walk using wpAny_loadPart' hl, wpAny_pyIter_tuple hT; exact ⟨_, rfl, h⟩
section
variable {prog : Program} {w : World} {A : Around} {E : Value → Shared → Prop} {s : Shared}
theorem call_enumT {l : Addr} {items : Array Value} {Q : Value → Shared → Prop} (hL : s.heap.IsTuple l items)
    (h : ∀ h', IsEnum h' (s.heap.objs.size + 1) s.heap.objs.size 0 .none → h'.IsTupleIter s.heap.objs.size l 0 → (∀ b o, s.heap.get? b = some o → h'.get? b = some o) → Q (.ref (s.heap.objs.size + 1)) { s with heap := h' }) :
    wpAny (model prog w) A (call (.type "enumerate") [.ref l]) Q E s := by
  obtain ⟨⟨c, dct, dt, sl⟩, hl, hc, n, hd⟩ := hL
  have hc : c = .type "tuple" := hc
  have hd : dt = .seq items n := hd
  subst hc hd
  let it : Obj := { cls := .type "tuple_iterator", data := .fields #[.ref l, .int 0 0] }
  let en : Obj := { cls := .type "enumerate", data := .fields #[.none, .bool false, .ref s.heap.objs.size, rawInt 0, .none, .none] }
  have z : (s.heap.push it).objs.size = s.heap.objs.size + 1 := Heap.size_push ..
  have he : IsEnum ((s.heap.push it).push en) (s.heap.objs.size + 1) s.heap.objs.size 0 .none := by
    have q := Heap.get?_push_size (s.heap.push it) (o := en) rfl
    rw [z] at q; exact q
  refine PySem.callType_new PySem.F.called_enumerate (by decide) (PySem.F.typeCall_enumerate_1 _) (PySem.F.newCall_enumerate_1 _) (fun obj => PySem.F.args_object_init_2 obj _) PySem.F.entry_enumerate_new (enum_newT l items n dct sl) ⟨hl, ?_⟩
  show _ ∧ _
  rw [z]
  exact ⟨⟨_, he, rfl⟩, h _ he ⟨_, Heap.get?_push_of_some _ (Heap.get?_push_size _ rfl), rfl, rfl⟩ fun b o x => Heap.get?_push_of_some _ (Heap.get?_push_of_some _ x)⟩
end
/-- the tuple at a as it stands at each turn, the items in new pairs with their places -/
def IteT (K : PySem.W.Frag) (a : Addr) : It :=
  ⟨fun i H => ∃ (xs : List V) (x : V), SqT K H a xs ∧ xs[i]? = some x,
    fun i H v H' => ∃ T x, v = .ref T ∧ H T = none ∧ H' = upd H T (.tup [.int (i : Nat), x]) ∧ ∀ xs, SqT K H a xs → xs[i]? = some x,
    fun i H => ∃ xs : List V, SqT K H a xs ∧ xs.length = i⟩
theorem turn_enumT {P : Program} {w : World} {K : PySem.W.Frag} {elts : List Expr} {kk : Nat} {tpos : Pos} {a e it : Addr} (ne1 : e ≠ it) (ne2 : e ≠ a) (ne3 : a ≠ it) :
    Turn P w K (.Tuple elts kk tpos) (IteT K a) [e, it] e (fun i h => (∃ old, IsEnum h e it ((i : Nat) : Int) old) ∧ h.IsTupleIter it a i) where
  mem := by simp
  obj := fun i h st b hb => by
    obtain ⟨⟨old, he⟩, ⟨o, ho, hc, hd⟩⟩ := st
    rcases (by simpa using hb : b = e ∨ b = it) with z | z <;> rw [z]
    · exact ⟨_, he, fun v q => nomatch q⟩
    · exact ⟨o, ho, fun v q => by rw [hd] at q; cases q⟩
  keep := fun i h h' st k => let ⟨⟨old, he⟩, hi⟩ := st; ⟨⟨old, k e (by simp) _ he⟩, hi.at fun o q => k it (by simp) o q⟩
  item := by
    intro X hP hw hK hc i pins s σ H E I hf st hg
    subst hP hw hK
    obtain ⟨⟨old, he⟩, hit⟩ := st
    obtain ⟨xs, x, hq, hx⟩ := hg
    obtain ⟨its, rv, p, hz⟩ := I.tuple hq
    obtain ⟨u, hu, ru⟩ := rv.get hx
    have l1 : e < s.heap.objs.size := Heap.lt_size he
    have l2 : it < s.heap.objs.size := let ⟨_, q, _⟩ := hit; Heap.lt_size q
    have hn : its[i]? = some u := hu
    have D := Draws.tuple (prog := X.prog) (w := X.w) (A := X.A.in1) (I.ok.hd hc) it a ne3 its.toArray
    refine wpAny_pyNext_enum_itemD D he ⟨hit, p⟩ (by simpa using (List.getElem?_eq_some_iff.mp hn).1) ne1 (by simp [ne1, ne2]) fun y h1 tk hy ho hst hT hs hk => ?_
    have ey : y = u := by
      have hy : its.toArray[i]? = some y := hy
      rw [List.getElem?_toArray, hn] at hy
      exact (Option.some.inj hy).symm
    subst ey
    refine ⟨_, rfl, wpAny_letOwnedTupleGo_enum (s := { s with heap := h1, toks := tk + 1 }) ho fun h2 he2 sb => ?_⟩
    have nz : s.heap.objs.size ≠ e := Nat.ne_of_gt l1
    have hT2 : h2.get? s.heap.objs.size = some { cls := .type "tuple", data := .seq #[.int i tk, y] } := (sb.2 _ nz).trans hT
    have new : ObjOk X.prog X.w (upd H s.heap.objs.size (.tup [.int (i : Nat), x])) h2 s.heap.objs.size (.tup [.int (i : Nat), x]) := ⟨(by decide : 2 ≤ sizeLine), [.int i tk, y], .cons ⟨_, rfl⟩ (.cons ru .nil), ⟨_, hT2, rfl, _, rfl⟩⟩
    have k2 : ∀ b o, b ∉ [e, it] → s.heap.get? b = some o → h2.get? b = some o := fun b o hb q => by
      have hb' : b ≠ e ∧ b ≠ it := by simpa using hb
      exact (sb.2 b hb'.1).trans (hk b o hb'.1 hb'.2 q)
    have I1 : Inv X pins σ (upd H s.heap.objs.size (.tup [.int (i : Nat), x])) { s with heap := h2, toks := tk + 1 } := I.turnedNew (ch := [e, it]) (fun b o hb q => k2 b o hb q) hf (Nat.le_refl _) new
    refine ⟨.ref s.heap.objs.size, _, I1, rfl, ⟨_, x, rfl, I.hok.fresh (Nat.le_refl _), rfl, fun l hl => by rw [I.tuple_inj hl hq]; exact hx⟩, ⟨⟨y, ?_⟩, hst.1.at fun o q => (sb.2 it (Ne.symm ne1)).trans q⟩, fun b hb => ?_⟩
    · rw [show ((i + 1 : Nat) : Int) = (i : Int) + 1 by omega]; exact he2
    · have hb' : b < s.heap.objs.size := by
        rcases (by simpa using hb : b = e ∨ b = it) with z | z <;> rw [z]
        · exact l1
        · exact l2
      rw [upd_ne (Nat.ne_of_lt hb')]
      exact (hf b hb).1
  done := by
    intro X hP hw hK hc i pins s σ H E I hf st hg
    subst hP hw hK
    obtain ⟨⟨old, he⟩, hit⟩ := st
    obtain ⟨xs, hq, hx⟩ := hg
    obtain ⟨its, rv, p, hz⟩ := I.tuple hq
    obtain ⟨f0, f1, f2, f3, f4, f5⟩ := hf it (by simp)
    have hl : i = its.toArray.size := by rw [List.size_toArray, ← rv.length]; exact hx.symm
    have D := Draws.tuple (prog := X.prog) (w := X.w) (A := X.A.in1) (I.ok.hd hc) it a ne3 its.toArray
    rw [hl] at hit
    exact wpAny_pyNext_enum_endD D he ⟨hit, p⟩ fun h1 eb => ⟨rfl, I.turned (t' := s.toks) (fun b o hb q => eb b o hb q) f0 f1 f3 f4 f5⟩
  self := fun A i s Q E st h => let ⟨⟨_, he⟩, _⟩ := st; wpAny_pyIter_enum he h
def iEnumA (K : PySem.W.Frag) (ta : TA) : TI := fun σ H R => ta σ H fun vs H1 => ∃ a, vs = [.ref a] ∧ (((∃ xs, SqL K H1 a xs) ∧ R (Ite K a) H1) ∨ ((∃ xs, SqT K H1 a xs) ∧ R (IteT K a) H1))
theorem pi_enumA {X : Cx} {e : Expr} {ta : TA} {p pos tpos : Pos} {elts : List Expr} {kk : Nat} (hg : Gl X "enumerate") (hm : X.mg "enumerate" = none) (ha : PA X [e] ta) (hs : starEach [e] X.env = [(false, eval e X.env)] := by rfl) :
    PI X (.Tuple elts kk tpos) (.Call (.Name "enumerate" p) [e] [] pos) (iEnumA X.K ta) := by
  refine ⟨fun pins s σ H R I h => Call_ (ld_blt I hg hm boot_enumerate (PyProof.Rows.callWith_type1 (thn (ha.run pos pins s σ H _ I h) fun us s1 ⟨vs, H1, I1, r1, q1⟩ => ?_) hs rfl))⟩
  obtain ⟨a, ex, q⟩ := q1
  subst ex
  cases r1 with
  | cons r rr =>
    cases rr
    cases r
    have far : ∀ b ∈ [s1.heap.objs.size + 1, s1.heap.objs.size], FpOk X pins H1 b := fun b hb => by
      have hle : s1.heap.objs.size ≤ b := by
        rcases (by simpa using hb : b = s1.heap.objs.size + 1 ∨ b = s1.heap.objs.size) with z | z <;> rw [z]
        · exact Nat.le_succ _
        · exact Nat.le_refl _
      exact I1.fpOk hle (I1.hok.fresh hle)
    rcases q with ⟨⟨xs, hq⟩, q⟩ | ⟨⟨xs, hq⟩, q⟩
    · obtain ⟨its, rv, p', hz⟩ := I1.list hq
      refine call_enumerate_list p'.isList fun h1 he hit _ hk => wpAny_pyIter_enum he ?_
      exact ⟨_, [s1.heap.objs.size + 1, s1.heap.objs.size], _, _, H1, rfl, I1.kept (t' := s1.toks) hk, turn_enum a _ _, ⟨⟨.none, he⟩, hit, Nat.succ_ne_self _⟩, far, q⟩
    · obtain ⟨its, rv, p', hz⟩ := I1.tuple hq
      have la : a < s1.heap.objs.size := let ⟨_, q, _⟩ := id p'; Heap.lt_size q
      refine call_enumT p' fun h1 he hit hk => wpAny_pyIter_enum he ?_
      exact ⟨_, [s1.heap.objs.size + 1, s1.heap.objs.size], _, _, H1, rfl, I1.kept (t' := s1.toks) hk, turn_enumT (a := a) (e := s1.heap.objs.size + 1) (it := s1.heap.objs.size) (Nat.succ_ne_self _) (Nat.ne_of_gt (Nat.lt_succ_of_lt la)) (Nat.ne_of_lt la), ⟨⟨.none, he⟩, hit⟩, far, q⟩
section
variable {X : Cx} {ec : Str → Addr} {a b : Expr} {wa wb : WE} {pos : Pos}
theorem walk_enumT {K : PySem.W.Frag} {a : Addr} {ds : List D} : Walks K (IteT K a) (fun Av H => Rp K Av H (.ref a) (.tuple ds)) (enumD ds) where
  keep := fun _ _ _ _ p g => g _ _ p
  item := fun i Av H hd p hi => by
    rw [enumD_len] at hi
    cases p with
    | tup h1 r =>
      rename_i xs
      have s1 : SqT K H a xs := h1.elim (fun q => SqT.of q.2) .inr
      have hx : xs[i]? = some (xs[i]'(by rw [r.length]; exact hi)) := by simp [r.length, hi]
      refine ⟨⟨xs, _, s1, hx⟩, fun x H' y => ?_⟩
      obtain ⟨T, x, rfl, hT, rfl, y⟩ := y
      obtain ⟨d, e1, e2⟩ := r.getV (y xs s1)
      obtain ⟨k, q⟩ := new_pair hd hT (.int (i : Nat)) e2
      exact ⟨k, _, enumD_at e1, q⟩
  stop := fun Av H p => by
    cases p with
    | tup h1 r =>
      rename_i xs
      exact ⟨xs, h1.elim (fun q => SqT.of q.2) .inr, by rw [r.length]; simp⟩
def wiEnumA (wa : WE) : WI := fun ρ Q E => wa ρ (fun z => match z.cln with
  | some (.list ds) => Q (enumD ds)
  | some (.tuple ds) => Q (enumD ds)
  | _ => False) E
theorem si_enumA {p tpos : Pos} {elts : List Expr} {kk : Nat} (hg : Gl X "enumerate") (hm : X.mg "enumerate" = none) (ha : SimE X ec a wa) (hs : starEach [a] X.env = [(false, eval a X.env)] := by rfl) :
    SimI X ec (.Tuple elts kk tpos) (.Call (.Name "enumerate" p) [a] [] pos) (wiEnumA wa) := by
  refine ⟨fun G σ H ρ Q E hK s t h => piu (pi_enumA hg hm (pa_cons peU pa_nil hs) hs) ?_⟩
  refine (ha.run G σ H ρ _ E hK s t h).mono fun v H1 ⟨x, e, r, q⟩ => ?_
  split at q
  · rename_i ds ec
    have rd := r.cln s ec
    cases rd with
    | lst na h1 rr => exact ⟨_, rfl, .inl ⟨⟨_, SqL.of h1⟩, enumD ds, _, e, walk_enum, hK ▸ .lst na h1 rr, q⟩⟩
  · rename_i ds ec
    have rd := r.cln s ec
    cases rd with
    | tup h1 rr => exact ⟨_, rfl, .inr ⟨⟨_, h1.elim (fun q => SqT.of q.2) fun k => .inr (hK ▸ k)⟩, enumD ds, _, e, walk_enumT, hK ▸ .tup h1 rr, q⟩⟩
  · exact q.elim
end
section
variable {ρ : Rho} {E : Str → Prop} {wa wb : WE} {Ql : List D → Prop} {x y : W} {ds es : List D}
def enumKA (Q : List D → Prop) (z : W) : Prop := match z.cln with
  | some (.list ds) => Q (enumD ds)
  | some (.tuple ds) => Q (enumD ds)
  | _ => False
instance i_wiEnumA : Stp (wiEnumA wa ρ Ql E) (wa ρ (enumKA Ql) E) := ⟨fun q => q⟩
instance i_enumKL [c : Cn x (.list ds)] : Stp (enumKA Ql x) (Ql (enumD ds)) := ⟨fun q => by unfold enumKA; rw [c.eq]; exact q⟩
instance i_enumKT : Stp (enumKA Ql (.d (.tuple ds))) (Ql (enumD ds)) := ⟨fun q => q⟩
end
/-! ### 31. a tuple from behind -/
section
variable {prog : Program} {w : World} {A : Around} {E : Value → Shared → Prop} {s : Shared}
theorem fm_congr {α β : Type} {f g : α → Option β} : ∀ (l : List α), (∀ k ∈ l, f k = g k) → l.filterMap f = l.filterMap g
  | [], _ => rfl
  | a :: l, h => by
    rw [List.filterMap_cons, List.filterMap_cons, h a List.mem_cons_self, fm_congr l fun k hk => h k (List.mem_cons_of_mem _ hk)]
theorem rev_pick (xs : Array Value) : ((List.range xs.size).filterMap fun (k : Nat) => xs[(((xs.size : Int) - 1) + (k : Int) * (-1)).toNat]?).toArray = xs.toList.reverse.toArray := by
  have h := PySem.W.krv_pick xs
  unfold slicePick at h
  rw [PySem.W.krv_bounds] at h
  have h : ((sliceRange ((xs.size : Int) - 1) (-1) (-1)).filterMap (xs[·]?)).toArray = xs.toList.reverse.toArray := h
  rw [PySem.W.krv_sliceRange, List.filterMap_map] at h
  rw [← h]
  congr 1
  refine fm_congr _ fun k hk => ?_
  have hk : k < xs.size := List.mem_range.mp hk
  show xs[(((xs.size : Int) - 1) + (k : Int) * (-1)).toNat]? = xs[xs.size - 1 - k]?
  congr 1
  omega
theorem slice_back {sl : Addr} {vs : Value} {n : Nat} {Q : Int × Int × Nat → Shared → Prop} (hs : s.heap.IsSliceOf sl .none .none vs) (ps : IsPart vs (some (-1))) (h : Q ((n : Int) - 1, -1, n) s) : wpAny (model prog w) A (Builtin.Slice.sliceApplied (.ref sl) (pure (n : Int))) Q E s := by
  obtain ⟨o, ho, hc, hd⟩ := hs
  unfold Builtin.Slice.sliceApplied Builtin.Slice.sliceFields
  refine wpAny_bind (wpAny_bind (wpAny_field ho hd (x := .none) rfl (wpAny_bind (wpAny_field ho hd (x := .none) rfl (wpAny_bind (wpAny_field ho hd (x := vs) rfl (wpAny_pure ?_)))))))
  refine wpAny_bind (HT.slicePart_ ps ?_)
  show wpAny _ _ (if ((-1 : Int) == 0) = true then _ else _) _ _ s
  rw [if_neg (by decide)]
  refine wpAny_bind (HT.slicePart_ .none (wpAny_bind (HT.slicePart_ .none (wpAny_bind (wpAny_pure ?_)))))
  have e : Builtin.Slice.sliceAdjust none none (-1) (n : Int) = ((n : Int) - 1, -1) := rfl
  show wpAny _ _ (match Builtin.Slice.sliceAdjust none none (-1) (n : Int) with | (lo, hi) => pure (lo, (-1 : Int), Builtin.Slice.slicePlaces lo hi (-1))) _ _ s
  rw [e]
  have e2 : Builtin.Slice.slicePlaces ((n : Int) - 1) (-1) (-1) = n := by
    unfold Builtin.Slice.slicePlaces
    rw [if_neg (by decide)]
    by_cases q : (n : Int) - 1 > -1
    · rw [if_pos q]
      have : ((n : Int) - 1 - -1 - 1) / (- -1) = (n : Int) - 1 := by rw [show (- -1 : Int) = 1 by decide, Int.ediv_one]; omega
      rw [this]; omega
    · rw [if_neg q]; omega
  show wpAny _ _ (pure ((n : Int) - 1, (-1 : Int), Builtin.Slice.slicePlaces ((n : Int) - 1) (-1) (-1))) _ _ s
  rw [e2]
  exact wpAny_pure h
theorem item_back {t sl : Addr} {items : Array Value} {vs : Value} {Q : Value → Shared → Prop} (ht : IsTup s.heap t items) (hs : s.heap.IsSliceOf sl .none .none vs) (ps : IsPart vs (some (-1)))
    (h : Q (.ref s.heap.objs.size) { s with heap := s.heap.push { cls := .type "tuple", data := .seq items.toList.reverse.toArray } }) (hz : items.size ≤ sizeLine) : wpAny (model prog w) A (getItem (.ref t) (.ref sl)) Q E s := by
  have fit : sizeOk (.seq items.toList.reverse.toArray) := by
    show items.toList.reverse.toArray.size ≤ sizeLine
    simpa using hz
  have ty : s.TypeIs (.ref sl) "slice" := let ⟨o, a, b, _⟩ := hs; ⟨o, a, b⟩
  unfold getItem
  try with_reducible refine wpAny_holding ?_
  first | refine wpAny_bind (wpAny_pure ?_) | skip
  refine wpAny_bind (wpAny_sequenceKey ht.typeIs (by decide) (wpAny_bind (wpAny_callSpecial?_slot (name := Str.ofString "__getitem__") ht.typeIs PyProof.Rows.slot_tuple_getitem (wpAny_call_entry PyProof.Rows.slot_tuple_getitem ht.typeIs PyProof.Rows.entry_tuple_getitem ?_ (PyProof.Rows.args_tuple_getitem _ _)))))
  show wpAny _ _ (Builtin.Tuple.tupleItemsOf (.ref t) >>= _) _ _ s
  refine wpAny_bind (PyProof.Rows.tupleItemsOf_ ht (wpAny_bind (wpAny_typeOf ty ?_)))
  rw [if_pos (by decide)]
  refine wpAny_bind (slice_back hs ps ?_)
  have no : ¬ ((((items.size : Int) - 1 : Int) == 0 && (-1 : Int) == 1 && items.size == items.size) = true) := by simp
  show wpAny _ _ (if (((items.size : Int) - 1 : Int) == 0 && (-1 : Int) == 1 && items.size == items.size) = true then _ else _) _ _ s
  rw [if_neg no, rev_pick]
  first
    | exact wpAny_bind (m := Builtin.Tuple.tupleExact _) (wpAny_newObj_type (wpAny_pure ⟨_, rfl, wpAny_pure h⟩) fit)
    | exact wpAny_bind (m := Builtin.Tuple.tupleExact _) (wpAny_newObj_type (wpAny_bind (wpAny_pure (wpAny_pure ⟨_, rfl, wpAny_pure h⟩))) fit)
    | exact wpAny_bind (wpAny_bind (m := Builtin.Tuple.tupleExact _) (wpAny_newObj_type (wpAny_pure (wpAny_pure ⟨_, rfl, wpAny_pure h⟩)) fit))
    | exact wpAny_bind (wpAny_bind (m := Builtin.Tuple.tupleExact _) (wpAny_newObj_type (wpAny_pure ⟨_, rfl, wpAny_pure h⟩) fit))
end
def tRevA (K : PySem.W.Frag) (te : TE) : TE := fun σ H Q => te σ H fun x H1 => ∃ a, x = .ref a ∧ ((∃ xs, SqL K H1 a xs ∧ ∀ p, H1 p = none → Q (.ref p) (upd H1 p (.lst xs.reverse))) ∨ ∃ xs, SqT K H1 a xs ∧ ∀ p, H1 p = none → Q (.ref p) (upd H1 p (.tup xs.reverse)))
theorem pe_revA {X : Cx} {e : Expr} {te : TE} {k : Nat} {p1 p2 p3 pos : Pos} (he : PE X e te) : PE X (.Subscript e (.Slice none none (some (.UnaryOp .USub (.Constant (.int 1) k p1) p2)) p3) pos) (tRevA X.K te) := by
  refine ⟨fun pins s σ H Q I h => Subscript_ (thn (he.run pins s σ H _ I h) fun v s1 ⟨x, H1, I1, r1, q1⟩ => ?_)⟩
  obtain ⟨a, rfl, q⟩ := q1
  cases r1
  have hst : PO X (some (.UnaryOp .USub (.Constant (.int 1) k p1) p2)) (tPart (tUn (rU fun i => .int (-i)) (tC (.int 1)))) := po_some (pe_un un_neg pe_int)
  refine wpAny_Slice (thn (po_none.run pins s1 σ H1 (fun o H2 => o = none ∧ H2 = H1) I1 ⟨rfl, rfl⟩) fun vl s2 ⟨l, H2, I2, pl, el, e2⟩ => ?_)
  subst el e2
  cases pl
  refine thn (po_none.run pins s2 σ H2 (fun o H3 => o = none ∧ H3 = H2) I2 ⟨rfl, rfl⟩) fun vu s3 ⟨u, H3, I3, pu, eu, e3⟩ => ?_
  subst eu e3
  cases pu
  refine thn (hst.run pins s3 σ H3 (fun o H4 => o = some (-1) ∧ H4 = H3) I3 ⟨1, rfl, -1, rfl, rfl, rfl⟩) fun vs s4 ⟨o, H4, I4, ps, eo, e4⟩ => ?_
  subst eo e4
  let h5 : Heap := s4.heap.push { cls := .type "slice", data := .fields #[.none, .none, vs] }
  have I5 : Inv X pins σ H4 { s4 with heap := h5 } := I4.kept (t' := s4.toks) fun b ob q => Heap.get?_push_of_some _ q
  show wpAny (model X.prog X.w) X.A (subscriptTail e (.Slice none none (some (.UnaryOp .USub (.Constant (.int 1) k p1) p2)) p3) (.ref a) (.ref s4.heap.objs.size)) (EP X pins σ Q) X.xe { s4 with heap := h5 }
  rcases q with ⟨xs, hx, q⟩ | ⟨xs, hx, q⟩
  · obtain ⟨its, r, ht, hz⟩ := I5.list hx
    have hl := r.length
    refine tail_any (ops := [.ref a, .ref s4.heap.objs.size]) ht.isList.typeIs PySem.slot_list_getitem.lookup ?_ (by with_unfolding_all rfl)
    refine wpAny_getItem_list_slice ht.isList (Heap.IsSliceOf.new _ .none .none vs) .none .none ps (by decide) ?_ (by rw [List.size_toArray]; omega)
    rw [PySem.W.krv_pick]
    refine ⟨.ref _, _, I5.laid (t' := s4.toks) (o := .lst xs.reverse) (fun b ob q => Heap.get?_push_of_some _ q) (Nat.le_refl _) ?_, rfl, q _ (I5.hok.fresh (Nat.le_refl _))⟩
    exact ⟨by simpa using hz, _, 0, r.reverse, Heap.get?_push_size _ rfl⟩
  · obtain ⟨its, r, ht, hz⟩ := I5.tuple hx
    have hl := r.length
    refine tail_any (ops := [.ref a, .ref s4.heap.objs.size]) ht.typeIs PyProof.Rows.slot_tuple_getitem.lookup ?_ (by with_unfolding_all rfl)
    refine item_back ht (Heap.IsSliceOf.new _ .none .none vs) ps ?_ (by rw [List.size_toArray]; omega)
    refine ⟨.ref _, _, I5.laid (t' := s4.toks) (o := .tup xs.reverse) (fun b ob q => Heap.get?_push_of_some _ q) (Nat.le_refl _) ?_, rfl, q _ (I5.hok.fresh (Nat.le_refl _))⟩
    exact ⟨by simpa using hz, _, r.reverse, IsTup.new _ _⟩
def revKA (Q : W → Prop) (z : W) : Prop := match z.dat with
  | some (.list ds) => Q (.fr ds.reverse)
  | some (.tuple ds) => Q (.d (.tuple ds.reverse))
  | _ => False
def wRevA (wa : WE) : WE := fun ρ Q E => wa ρ (revKA Q) E
section
variable {X : Cx} {ec : Str → Addr} {a b : Expr} {wa wb : WE} {pos : Pos}
theorem sim_revA {k : Nat} {p1 p2 p3 : Pos} (ha : SimE X ec a wa) : SimE X ec (.Subscript a (.Slice none none (some (.UnaryOp .USub (.Constant (.int 1) k p1) p2)) p3) pos) (wRevA wa) := by
  refine ⟨fun G σ H ρ Q E hK s t h => peu (pe_revA peU) ?_⟩
  refine (ha.run G σ H ρ _ E hK s t h).mono fun v H1 ⟨x, e1, r1, h1⟩ => ?_
  unfold revKA at h1
  split at h1
  · rename_i ds e
    obtain ⟨p, vs, rfl, hp, r⟩ := r1.lst e
    refine ⟨p, rfl, .inl ⟨vs, SqL.of hp, fun q hq => ?_⟩⟩
    obtain ⟨x1, y1⟩ := newLst s e1 hq r.reverse
    exact ⟨_, x1, y1, h1⟩
  · rename_i ds e
    obtain ⟨p, vs, rfl, hp, r⟩ := r1.tup e
    refine ⟨p, rfl, .inr ⟨vs, hK ▸ hp, fun q hq => ?_⟩⟩
    obtain ⟨x1, y1⟩ := newTup s e1 hq r.reverse
    exact ⟨.d (.tuple ds.reverse), x1, y1, h1⟩
  · exact h1.elim
end
section
variable {ρ : Rho} {E : Str → Prop} {Q : W → Prop} {wa : WE} {x : W} {ds : List D}
instance i_wRevA : Stp (wRevA wa ρ Q E) (wa ρ (revKA Q) E) := ⟨fun q => q⟩
instance i_revKL [c : Ls x ds] : Stp (revKA Q x) (Q (.fr ds.reverse)) := ⟨fun q => by unfold revKA; rw [c.eq]; exact q⟩
instance i_revKT : Stp (revKA Q (.d (.tuple ds))) (Q (.d (.tuple ds.reverse))) := ⟨fun q => q⟩
end
/-! ### 32. a tuple so many times, any number -/
theorem mul_same (l : Addr) (items : Array Value) (n : Nat) (dd : Option Addr) (sl : Array (Option Value)) (x : Int) (u : Tok) (c0 : (decide (x < -(2 ^ 63)) || decide (x ≥ 2 ^ 63)) = false) (c1 : (items.isEmpty || x == 1) = true) :
    Meets (Builtin.«tuple.__mul__» ⟨[.ref l, .int x u], []⟩) (fun _ R s => s.heap.get? l = some { cls := .type "tuple", dict := dd, data := .seq items n, slots := sl } ∧ R (.ok (.ret (.ref l))) s) :=
  .of_wp fun prog w A R s h => by
    obtain ⟨hp, g, d, tk, os⟩ := s
    obtain ⟨hl, h⟩ := h
    have f1 := AutoSeq1.idx_int
    wp_walk using wpAny_loadPart' hl
    repeat (first
      | (refine wpAny_ite_false (decide_eq_false (by rw [c0]; simp)) ?_; wp_walk using wpAny_loadPart' hl)
      | (refine wpAny_ite_true (decide_eq_true c1) ?_; wp_walk using wpAny_loadPart' hl))
    exact ⟨_, rfl, h⟩
theorem mul_none (l : Addr) (items : Array Value) (n : Nat) (dd : Option Addr) (sl : Array (Option Value)) (x : Int) (u : Tok) (c0 : (decide (x < -(2 ^ 63)) || decide (x ≥ 2 ^ 63)) = false) (c1 : (items.isEmpty || x == 1) = false) (c2 : (decide (x ≤ 0) || items.isEmpty) = true) :
    Meets (Builtin.«tuple.__mul__» ⟨[.ref l, .int x u], []⟩) (fun _ R s => s.heap.get? l = some { cls := .type "tuple", dict := dd, data := .seq items n, slots := sl } ∧ R (.ok (.ret (.ref s.heap.objs.size))) { s with heap := s.heap.push { cls := .type "tuple", data := .seq #[] } }) :=
  .of_wp fun prog w A R s h => by
    obtain ⟨hp, g, d, tk, os⟩ := s
    obtain ⟨hl, h⟩ := h
    have f1 := AutoSeq1.idx_int
    wp_walk using wpAny_loadPart' hl
    repeat (first
      | (refine wpAny_ite_false (decide_eq_false (by rw [c0]; simp)) ?_; wp_walk using wpAny_loadPart' hl)
      | (refine wpAny_ite_false (decide_eq_false (by rw [c1]; simp)) ?_; wp_walk using wpAny_loadPart' hl)
      | (refine wpAny_ite_true (decide_eq_true c2) ?_; wp_walk using wpAny_loadPart' hl))
    exact ⟨_, rfl, h⟩
def rRepN (K : PySem.W.Frag) : R2 := fun x y H Q => ∃ l k xs, x = .ref l ∧ y = .int k ∧ SqT K H l xs ∧ -(2 ^ 63) ≤ k ∧ k < 2 ^ 63 ∧ ((xs = [] ∨ k = 1) ∧ Q (.ref l) H ∨ (xs ≠ [] ∧ k ≤ 0) ∧ ∀ p, H p = none → Q (.ref p) (upd H p (.tup [])))
theorem op_repN {X : Cx} : OpR X (binaryOp .Mult) (rRepN X.K) := by
  intro pins s σ H x y v u Q I rx ry h
  obtain ⟨l, k, xs, rfl, rfl, hT, k0, k1, h⟩ := h
  cases rx
  obtain ⟨t, rfl⟩ := ry
  obtain ⟨its, r, ⟨⟨cls, dd, data, sl⟩, ho, hc, n, hd⟩, hs⟩ := I.tuple hT
  have hc : cls = .type "tuple" := hc
  have hd : data = .seq its.toArray n := hd
  subst hc hd
  have hle : its.length = xs.length := r.length.symm
  have c0 : (decide (k < -(2 ^ 63)) || decide (k ≥ 2 ^ 63)) = false := by rw [decide_eq_false (by omega), decide_eq_false (by omega)]; rfl
  have hi : xs ≠ [] → its.toArray.isEmpty = false := fun hn => by
    cases its with
    | nil => exact absurd (List.eq_nil_of_length_eq_zero hle.symm) hn
    | cons a b => rfl
  have go : wpAny (model X.prog X.w) X.A (call (.builtin "tuple.__mul__") [.ref l, .int k t]) (EP X pins σ Q) X.xe s → wpAny (model X.prog X.w) X.A (binaryOp .Mult (.ref l) (.int k t)) (EP X pins σ Q) X.xe s := fun m =>
    wpAny_binaryOp_repeat_ref (T := "tuple") (U := "int") (by decide) ⟨_, ho, rfl⟩ (fun s' => PySem.typeIs_int s' k t) noFill_tuple_mul PySem.F.fills_int_mul PySem.F.slot_int_rmul repeat_tuple PySem.F.slot_int_index.lookup
      (PySem.call_meets PySem.F.slot_int_rmul (PySem.typeIs_int s k t) PySem.F.entry_int_rmul (PySem.F.args_int_rmul_2 _ _) (int_rmul_tuple k t l its.toArray n dd sl) ⟨ho, rfl, ⟨_, ho, rfl⟩, m⟩)
  refine go ?_
  have ht : s.TypeIs (.ref l) "tuple" := ⟨_, ho, rfl⟩
  have c1 : (its.toArray.isEmpty || k == 1) = decide (xs = [] ∨ k = 1) := by
    cases its with
    | nil =>
      have : xs = [] := List.eq_nil_of_length_eq_zero hle.symm
      simp [this]
    | cons a b =>
      have : xs ≠ [] := fun z => by rw [z] at hle; simp at hle
      by_cases q : k = 1 <;> simp [this, q]
  by_cases q1 : xs = [] ∨ k = 1
  · rcases h with ⟨_, q⟩ | ⟨⟨n1, n2⟩, _⟩
    · exact PySem.call_meets PySem.F.slot_tuple_mul ht PySem.F.entry_tuple_mul (PySem.F.args_tuple_mul_2 _ _) (mul_same l its.toArray n dd sl k t c0 (by rw [c1]; simpa using q1)) ⟨ho, .ref l, H, I, rfl, q⟩
    · rcases q1 with z | z
      · exact absurd z n1
      · omega
  · rcases h with ⟨z, _⟩ | ⟨⟨n1, n2⟩, q⟩
    · exact absurd z q1
    · refine PySem.call_meets PySem.F.slot_tuple_mul ht PySem.F.entry_tuple_mul (PySem.F.args_tuple_mul_2 _ _) (mul_none l its.toArray n dd sl k t c0 (by rw [c1]; simpa using q1) (by rw [decide_eq_true n2]; rfl)) ⟨ho, ?_⟩
      exact ⟨.ref s.heap.objs.size, _, I.laid (t' := s.toks) (o := .tup []) (fun b ob q => Heap.get?_push_of_some _ q) (Nat.le_refl _) ⟨by simp, [], .nil, IsTup.new _ _⟩, rfl, q _ (I.hok.fresh (Nat.le_refl _))⟩
def wRepB (x y : W) (Q : W → Prop) : Prop := match x.dat, y.dat with
  | some (.tuple a), some (.int k) => -(2 ^ 63) ≤ k ∧ k ≤ 1000 ∧ a.length ≤ 1000 ∧ Q (.d (.tuple (List.replicate k.toNat a).flatten))
  | _, _ => False
section
variable {X : Cx} {ec : Str → Addr} {a b : Expr} {wa wb : WE} {pos : Pos}
theorem r_repB : SimR2 X (fun x y H Q => rRepT X.K x y H Q ∨ rRepN X.K x y H Q) wRepB := by
  intro G ρ σ H Ha Hb v u x y Q Q' hK s rx ry h k
  unfold wRepB at h
  split at h
  · rename_i a m e1 e2
    have := ry.int e2
    subst u
    have rt := rx.tupd e1
    obtain ⟨p, vs, rfl, h1, r1⟩ := rx.tup e1
    have hl := r1.length
    by_cases q1 : vs = [] ∨ m = 1
    · refine .inr ⟨p, m, vs, rfl, rfl, hK ▸ h1, h.1, by omega, .inl ⟨q1, ?_⟩⟩
      have e : (List.replicate m.toNat a).flatten = a := by
        rcases q1 with z | z
        · rw [z] at hl
          have : a = [] := List.eq_nil_of_length_eq_zero hl.symm
          subst this; simp
        · subst z; simp
      have q := h.2.2.2
      rw [e] at q
      exact k _ H (.d (.tuple a)) Ext.refl rt q
    · by_cases q2 : m ≤ 0
      · refine .inr ⟨p, m, vs, rfl, rfl, hK ▸ h1, h.1, by omega, .inr ⟨⟨fun z => q1 (.inl z), q2⟩, fun t ht => ?_⟩⟩
        have e : (List.replicate m.toNat a).flatten = [] := by rw [show m.toNat = 0 by omega]; rfl
        have q := h.2.2.2
        rw [e] at q
        obtain ⟨x1, y1⟩ := newTup s Ext.refl ht (.nil : Rps G.K (G.av ρ σ) H [] [])
        exact k _ _ (.d (.tuple [])) x1 y1 q
      · refine .inl ⟨p, m, vs, rfl, rfl, hK ▸ h1, fun z => q1 (.inl z), by omega, h.2.1, by rw [hl]; exact h.2.2.1, fun t ht => ?_⟩
        obtain ⟨x1, y1⟩ := newTup s Ext.refl ht (r1.rep m.toNat)
        exact k _ _ (.d (.tuple _)) x1 y1 h.2.2.2
  · exact h.elim
def wMulB (x y : W) (Q : W → Prop) : Prop := wMul x y Q ∨ wRep x y Q ∨ wRepB x y Q
theorem sim_mulB (ha : SimE X ec a wa) (hb : SimE X ec b wb) : SimE X ec (.BinOp a .Mult b pos) (w2 wMulB wa wb) := sim_bin (op_mulA.or (op_rep.or (op_repT.or op_repN))) (r_or r_mulA (r_or r_rep r_repB)) ha hb
end
section
variable {Q : W → Prop} {x : W} {a : List D} {i j k : Int}
instance i_wMulB_i : Stp (wMulB (.d (.int i)) (.d (.int j)) Q) (Sd (MulOk i j) (Q (.d (.int (i * j))))) := ⟨fun z => .inl ⟨z.c, z.b⟩⟩
instance i_mulBL [c : Ls x a] : Stp (wMulB x (.d (.int k)) Q) (Sd (a.length * k.toNat ≤ big ∧ -(2 ^ 63) ≤ k ∧ k < 2 ^ 63) (Q (.fr (List.replicate k.toNat a).flatten))) := ⟨fun q => .inr (.inl (by unfold wRep; rw [c.eq]; exact ⟨q.c.1, q.c.2.1, q.c.2.2, q.b⟩))⟩
instance i_wMulB_t : Stp (wMulB (.d (.tuple a)) (.d (.int k)) Q) (Sd (-(2 ^ 63) ≤ k ∧ k ≤ 1000 ∧ a.length ≤ 1000) (Q (.d (.tuple (List.replicate k.toNat a).flatten)))) := ⟨fun z => .inr (.inr ⟨z.c.1, z.c.2.1, z.c.2.2, z.b⟩)⟩
end
/-! ### 33. several stores at once, some of them new lists to own -/
def sto : List (Nat × Bool) → List W → Rho → (Rho → Prop) → Prop
  | [], [], ρ, N => N ρ
  | (i, false) :: ks, x :: xs, ρ, N => (match x.cln with
    | some d => sto ks xs (ρ.set i (some (.im d))) N
    | none => False)
  | (i, true) :: ks, .fr ds :: xs, ρ, N => (∀ y ∈ xs, y.plain = true) ∧ sto ks xs (ρ.set i (some (.ow ds))) N
  | _, _, _, _ => False
def setV : List (Nat × Bool) → List V → St → St
  | (i, _) :: ks, v :: vs, σ => setV ks vs (σ.set i (some v))
  | _, _, σ => σ
theorem Sta.avl {G : Gh} {σ σ0 : St} {H : Hp} {ρ ρ0 : Rho} (s : Sta G σ H ρ) {a : Addr} (h : G.av ρ σ a) : G.av ρ0 σ0 a ∨ ∃ l, H a = some (.lst l) := by
  rcases h with h | h | ⟨i, ds, h1, h2⟩
  · exact .inl (.inl h)
  · exact .inl (.inr (.inl h))
  · obtain ⟨p, vs, e1, e2, _⟩ := s.ow i ds h1
    rw [h2] at e1; cases e1
    exact .inr ⟨vs, e2⟩
theorem sto_go {G : Gh} {ρ0 : Rho} {σ0 : St} {N : Rho → Prop} : ∀ (ks : List (Nat × Bool)) (xs : List W) (vs : List V) (H1 H' : Hp) (ρ : Rho) (σ : St) (fr : Bool), Sta G σ0 H1 ρ0 → Sta G σ H1 ρ → (fr = false → ∀ a, G.av ρ σ a → G.av ρ0 σ0 a) → (fr = true → ∀ y ∈ xs, y.plain = true) →
    WRt G ρ0 σ0 H1 H' vs xs → sto ks xs ρ N → vs.length = ks.length ∧ ∃ ρ', Sta G (setV ks vs σ) H' ρ' ∧ Go G ρ σ H1 ρ' (setV ks vs σ) H' ∧ N ρ'
  | [], [], _, _, _, ρ, σ, fr, s0, s, hf, hp, .nil, h => ⟨rfl, ρ, s, Go.refl, h⟩
  | [], _ :: _, _, _, _, _, _, _, _, _, _, _, _, h => by simp [sto] at h
  | (_, false) :: _, [], _, _, _, _, _, _, _, _, _, _, _, h => by simp [sto] at h
  | (_, true) :: _, [], _, _, _, _, _, _, _, _, _, _, _, h => by simp [sto] at h
  | (i, false) :: ks, x :: xs, v :: vs, H1, H', ρ, σ, fr, s0, s, hf, hp, .cons (H1 := H2) e r t, h => by
    unfold sto at h
    split at h
    · rename_i d ed
      have r0 : Rp G.K (G.av ρ0 σ0) H2 v d := r.cln s0 ed
      have s2 := s.ext e
      have r1 : Rp G.K (G.av ρ σ) H2 v d := by
        cases fr with
        | false => exact r0.fit (hf rfl)
        | true =>
          have hx := hp rfl x List.mem_cons_self
          cases x with
          | d y => cases ed; exact Rp.plain (fun a z => s2.avl z) d v hx r0
          | fr ys =>
            cases ed
            obtain ⟨p, us, rfl, n1, n2, n3⟩ := r
            exact .lst (s.noav n1) n2 (Rps.plain (fun a z => (s2.avl z).imp .inl id) ys us hx n3)
          | ow ys => cases ed
          | bag => cases ed
      obtain ⟨hl, ρ', s', g, q⟩ := sto_go ks xs vs H2 H' (ρ.set i (some (.im d))) (σ.set i (some v)) fr (s0.ext e) (s2.set r1) (fun z a w => hf z a (av_set (fun ds q => by cases q) w)) (fun z y hy => hp z y (List.mem_cons_of_mem _ hy)) t h
      exact ⟨by simp [hl], ρ', s', ((Go.ext e).trans Go.set).trans g, q⟩
    · exact h.elim
  | (i, true) :: ks, x :: xs, v :: vs, H1, H', ρ, σ, fr, s0, s, hf, hp, .cons (H1 := H2) e r t, h => by
    cases x with
    | fr ds =>
      obtain ⟨hpl, h⟩ : (∀ y ∈ xs, y.plain = true) ∧ sto ks xs (ρ.set i (some (.ow ds))) N := h
      obtain ⟨p, us, rfl, n1, n2, n3⟩ := r
      have s2 := s.ext e
      have r1 : Rps G.K (fun a => G.av ρ σ a ∨ a = p) H2 us ds := by
        cases fr with
        | false => exact n3.fit fun a z => z.imp (hf rfl a) id
        | true => exact Rps.plain (fun a z => z.elim (fun z => (s2.avl z).imp .inl id) fun z => .inl (.inr z)) ds us (hp rfl (.fr ds) List.mem_cons_self) n3
      obtain ⟨hl, ρ', s', g, q⟩ := sto_go ks xs vs H2 H' (ρ.set i (some (.ow ds))) (σ.set i (some (.ref p))) true (s0.ext e) (s.own e n1 n2 r1) (fun z => by cases z) (fun _ => hpl) t h
      exact ⟨by simp [hl], ρ', s', (Go.own e n1).trans g, q⟩
    | _ => exact (h : False).elim
def wParG (ks : List (Nat × Bool)) (ws : WA) : WS := fun ρ O => ws ρ (fun xs => sto ks xs ρ O.nx) (fun c => O.ex c ρ)
section
variable {X : Cx} {ec : Str → Addr} {a b c : Expr} {es : List Expr} {ws : WA} {pos : Pos}
theorem par_fin {ks : List (Nat × Bool)} {G : Gh} {σ : St} {H H' : Hp} {ρ : Rho} {O : Out} {D : Ends} (s : Sta G σ H ρ) (en : EndsOk G ρ σ H O D) {vs : List V} {xs : List W} (rt : WRt G ρ σ H H' vs xs) (q : sto ks xs ρ O.nx) : vs.length = ks.length ∧ D.nx (setV ks vs σ) H' := by
  obtain ⟨hl, ρ', s', g, q⟩ := sto_go ks xs vs H H' ρ σ false s s (fun _ _ z => z) (fun z => by cases z) rt q
  exact ⟨hl, en.nx _ H' ρ' s' g q⟩
theorem s_parG2 {i j : Nat} {b1 b2 : Bool} {x y : Str} {px py pt : Pos} {kt k2 pt2} (hc : X.calm = true) (hN : X.N.Nodup) (hi : X.N[i]? = some x) (hj : X.N[j]? = some y) (hij : i ≠ j) (hx : X.env.scope.names.lookup x = some .local) (hy : X.env.scope.names.lookup y = some .local) (ha : SimA X ec [a, b] ws)
    (hw : swappedStores [.Tuple [.Name x px, .Name y py] kt pt] (.Tuple [a, b] k2 pt2) X.env = pure (some [x, y])) (hs : swapsWithSole [.Tuple [.Name x px, .Name y py] kt pt] (.Tuple [a, b] k2 pt2) pos.line X.env = pure false := by rfl) :
    SimS X ec (.Assign [.Tuple [.Name x px, .Name y py] kt pt] (.Tuple [a, b] k2 pt2) pos) (wParG [(i, b1), (j, b2)] ws) := by
  refine ⟨fun G σ H ρ O D hK s t en h => psu (ps_par hc hN hi hj hij hx hy paU hw hs) ((ha.at hK s t h).mono fun vs H' ⟨xs, rt, q⟩ => ?_)⟩
  obtain ⟨hl, q⟩ := par_fin s en rt q
  match vs, hl with
  | [v, u], _ => exact ⟨v, u, rfl, q⟩
theorem s_parG3 {i j l : Nat} {b1 b2 b3 : Bool} {x y z : Str} {px py pz pt : Pos} {kt k2 : Nat} {pt2 : Pos} (hc : X.calm = true) (hN : X.N.Nodup) (hi : X.N[i]? = some x) (hj : X.N[j]? = some y) (hl : X.N[l]? = some z) (hij : i ≠ j) (hil : i ≠ l) (hjl : j ≠ l)
    (hx : X.env.scope.names.lookup x = some .local) (hy : X.env.scope.names.lookup y = some .local) (hz : X.env.scope.names.lookup z = some .local) (ha : SimA X ec [a, b, c] ws)
    (hw : swappedStores [.Tuple [.Name x px, .Name y py, .Name z pz] kt pt] (.Tuple [a, b, c] k2 pt2) X.env = pure (some [x, y, z])) (hs : swapsWithSole [.Tuple [.Name x px, .Name y py, .Name z pz] kt pt] (.Tuple [a, b, c] k2 pt2) pos.line X.env = pure false := by rfl) :
    SimS X ec (.Assign [.Tuple [.Name x px, .Name y py, .Name z pz] kt pt] (.Tuple [a, b, c] k2 pt2) pos) (wParG [(i, b1), (j, b2), (l, b3)] ws) := by
  refine ⟨fun G σ H ρ O D hK s t en h => psu (ps_par3 hc hN hi hj hl hij hil hjl hx hy hz paU hw hs) ((ha.at hK s t h).mono fun vs H' ⟨xs, rt, q⟩ => ?_)⟩
  obtain ⟨hl, q⟩ := par_fin s en rt q
  match vs, hl with
  | [v, u, w], _ => exact ⟨v, u, w, rfl, q⟩
theorem gAll_set {Q : St → Hp → Prop} {H : Hp} : ∀ (ks : List (Nat × Bool)) (vs : List V) (σ : St), vs.length = ks.length → Q (setV ks vs σ) H → gAll (ks.map (·.1)) vs σ H Q
  | [], [], σ, _, q => ⟨rfl, q⟩
  | [], _ :: _, _, h, _ => by simp at h
  | _ :: _, [], _, h, _ => by simp at h
  | (i, b) :: ks, v :: vs, σ, h, q => ⟨v, vs, rfl, gAll_set ks vs (σ.set i (some v)) (by simpa using h) q⟩
/-- by a tuple in truth (four targets and more, or targets of another form) -/
theorem s_parN {ks : List (Nat × Bool)} {tg : Expr} {k2 : Nat} {pt2 : Pos} (hg : PG X tg ((Pt.tp (ks.map (·.1))).g X.K)) (hn : ks.length ≤ 100) (ha : SimA X ec es ws) (hs : swapsWithSole [tg] (.Tuple es k2 pt2) pos.line X.env = pure false := by rfl) (hw : swappedStores [tg] (.Tuple es k2 pt2) X.env = pure none := by rfl)
    (h1 : (assignEach [tg] X.env).map (·.2) = [assign tg X.env] := by rfl) : SimS X ec (.Assign [tg] (.Tuple es k2 pt2) pos) (wParG ks ws) := by
  refine ⟨fun G σ H ρ O D hK s t en h => psu (ps_asg (pe_tup paU) hg hs hw h1) ((ha.at hK s t h).mono fun vs H' ⟨xs, rt, q⟩ => ?_)⟩
  obtain ⟨hl, ρ', s', g, q⟩ := sto_go ks xs vs H H' ρ σ false s s (fun _ _ z => z) (fun z => by cases z) rt q
  refine ⟨by rw [hl]; exact Nat.le_trans hn (by decide), fun p hp => ⟨p, vs, rfl, SqT.of upd_same, by simp [hl], ?_⟩⟩
  have x1 := s'.new (o := .tup vs) hp
  exact gAll_set ks vs σ hl (en.nx _ _ ρ' (s'.ext x1) (g.trans (Go.ext x1)) q)
end
section
variable {ρ ρ1 : Rho} {E : Str → Prop} {ws : WA} {nx bk ct N : Rho → Prop} {rt : W → Prop} {ex : Str → Rho → Prop} {i : Nat} {x : W} {xs : List W} {d : D} {ds : List D} {ks : List (Nat × Bool)}
instance i_wParG : Stp (wParG ks ws ρ ⟨nx, rt, bk, ct, ex⟩) (ws ρ (fun xs => sto ks xs ρ nx) (fun c => ex c ρ)) := ⟨fun q => q⟩
instance i_sto0 : Stp (sto [] [] ρ N) (N ρ) := ⟨fun q => q⟩
instance i_stoD [c : Cn x d] [h : Su ρ i (some (.im d)) ρ1] : Stp (sto ((i, false) :: ks) (x :: xs) ρ N) (sto ks xs ρ1 N) := ⟨fun q => by unfold sto; rw [c.eq]; show sto ks xs (ρ.set i (some (.im d))) N; rw [h.eq]; exact q⟩
instance i_stoO [h : Su ρ i (some (.ow ds)) ρ1] : Stp (sto ((i, true) :: ks) (.fr ds :: xs) ρ N) (Sd (∀ y ∈ xs, y.plain = true) (sto ks xs ρ1 N)) := ⟨fun q => ⟨q.c, by show sto ks xs (ρ.set i (some (.ow ds))) N; rw [h.eq]; exact q.b⟩⟩
instance i_stoO1 [h : Su ρ i (some (.ow ds)) ρ1] : Stp (sto ((i, true) :: ks) [.fr ds] ρ N) (sto ks [] ρ1 N) := ⟨fun q => ⟨fun y hy => by simp at hy, by show sto ks [] (ρ.set i (some (.ow ds))) N; rw [h.eq]; exact q⟩⟩
end
end R
namespace R
open PySem PySem.Spec PyProof.Rows L2 RZ
set_option autoImplicit false
/-! ### 34. repr of any data, two of them compared -/
mutual
@[simp] def shx : D → Nat
  | .none => 4
  | .bool _ => 5
  | .int _ => 4310
  | .str x => 12 * x.length + 12
  | .list xs => shxs xs + 3
  | .tuple xs => shxs xs + 3
  | .dict _ => 0
@[simp] def shxs : List D → Nat
  | [] => 0
  | x :: xs => shx x + 2 + shxs xs
end
theorem big_pow : 2 ^ 14000 ≤ 10 ^ 4300 := by decide +kernel
theorem small10 {n : Nat} (h : n.log2 < 14000) : n < 10 ^ 4300 := by
  generalize hP : 10 ^ 4300 = P
  have lo : 2 ^ 14000 ≤ P := hP ▸ big_pow
  exact Nat.lt_of_lt_of_le (lt_of_log2 h) lo
theorem Bd.lg {i : Int} {k : Nat} (h : Bd i k) (hk : k ≤ 14000) : i.natAbs.log2 < 14000 := by
  by_cases z : i.natAbs = 0
  · rw [z]; decide
  · exact (Nat.log2_lt z).mpr (Nat.lt_of_lt_of_le h (Nat.pow_le_pow_right (by decide) hk))
mutual
@[simp] def rok : D → Bool
  | .none => true
  | .bool _ => true
  | .int i => decide (i.natAbs.log2 < 14000)
  | .str x => PyData.strOk x
  | .list xs => roks xs
  | .tuple xs => roks xs
  | .dict _ => false
@[simp] def roks : List D → Bool
  | [] => true
  | x :: xs => rok x && roks xs
end
mutual
theorem rok_shx : ∀ d : D, rok d = true → d.shown.length ≤ shx d
  | .none, _ => by simp only [shx]; decide +kernel
  | .bool b, _ => by cases b <;> (simp only [shx]; decide +kernel)
  | .int i, h => by
    have e := int_text_length_le10 (k := 4300) (by decide) (small10 (of_decide_eq_true (by simpa only [rok] using h)))
    have e2 : (PyData.int i).shown.length ≤ 4301 := by
      simp only [PyData.shown]
      rw [PySem.ofString_length]; exact e
    simp only [shx]
    omega
  | .str x, h => by
    have h : (x.cps.all (· < 0x110000)) = true := by simp only [rok] at h; exact h
    have h2 : ∀ c ∈ x.cps.toList, c < 16 ^ 8 := fun c hc => by
      have := (Array.all_eq_true_iff_forall_mem.mp h) c (by simpa using hc)
      have : c < 0x110000 := by simpa using this
      omega
    have := PySem.StrLaws.reprText_len x h2
    simp only [shx, PyData.shown]
    omega
  | .list xs, h => by
    have := roks_shx xs (by simpa only [rok] using h)
    have := listText_len_le (PyData.shownAll xs)
    simp only [shx, PyData.shown]
    omega
  | .tuple xs, h => by
    have := roks_shx xs (by simpa only [rok] using h)
    have := tupleText_len_le (PyData.shownAll xs)
    simp only [shx, PyData.shown]
    omega
  | .dict _, h => by simp only [rok] at h; cases h
theorem roks_shx : ∀ ds : List D, roks ds = true → ((PyData.shownAll ds).map (·.length)).sum + 2 * (PyData.shownAll ds).length ≤ shxs ds
  | [], _ => by simp only [PyData.shownAll, shxs, List.map_nil, List.sum_nil, List.length_nil]; omega
  | x :: xs, h => by
    have h' : (rok x && roks xs) = true := by simpa only [roks] using h
    rw [Bool.and_eq_true] at h'
    have h1 := rok_shx x h'.1
    have h2 := roks_shx xs h'.2
    simp only [PyData.shownAll, shxs, List.map_cons, List.sum_cons, List.length_cons]
    omega
end
section
variable {P : Program} {w : World} {h0 : Heap}
theorem call_int_big {A : Around} {E : Value → Shared → Prop} {s : Shared} {a : Int} {t : Tok} {Q : Value → Shared → Prop} (hn : s.heap.NoDigits) (hl : a.natAbs.log2 < 14000)
    (q : Q (.str (toString a) s.toks) { s with toks := s.toks + 1 }) : wpAny (model P w) A (call (.builtin "int.__repr__") [.int a t]) Q E s := by
  refine wpAny_call_entry F.slot_int_repr (typeIs_int s a t) F.entry_int_repr ?_ (F.args_int_repr_1 _)
  unfold Builtin.«int.__repr__»
  show wpAny _ _ (do
    let r ← Builtin.overDigitLimit? a
    _) _ _ s
  refine wpAny_bind (overDigitLimit_any hn (fun lt => ?_) fun ge => absurd (small10 hl) (Nat.not_lt.mpr ge))
  exact wpAny_bind (wpAny_mkStr (wpAny_pure ⟨_, rfl, q⟩) (int_text_fits10 lt))
theorem k_int {i : Int} {t : Tok} {d : Nat} (hn : h0.NoDigits) (hl : i.natAbs.log2 < 14000) : ReprK P w [] h0 d (.int i t) (toString i) := by
  intro b hb A g E s Q hg _ hu hk q
  rw [pyReprUnder_leaf (v := .int i t) (by omega) (fun _ e => nomatch e)]
  unfold pyRepr
  exact wpAny_bind (wpAny_pyReprObj_slot (by omega) (typeIs_int s i t) F.slot_int_repr.toG (call_int_big (hn.keeps hk) hl ⟨_, _, rfl, wpAny_pure (q s.heap _ fun _ _ e => e)⟩))
mutual
theorem k_rok (hn : h0.NoDigits) : ∀ {v : Value} {d : D} {as : List Addr}, Reads h0 v d as → rok d = true → shx d ≤ 16000000 →
    ∃ bs, ReadAtMost h0 d.depth bs ∧ ReprK P w bs h0 d.depth v d.shown
  | _, _, _, .none, _, _ => ⟨[], (fun _ h => nomatch h), by
    simp only [PyData.shown]
    exact .of_is ReprIs.none _ _ _⟩
  | _, _, _, .bool b, _, _ => ⟨[], (fun _ h => nomatch h), by
    simp only [PyData.shown]
    exact .of_is (ReprIs.bool b) _ _ _⟩
  | _, _, _, .int i t, ok, _ => ⟨[], (fun _ h => nomatch h), by
    simp only [PyData.shown]
    exact k_int hn (of_decide_eq_true (by simpa only [rok] using ok))⟩
  | _, _, _, .str x t, ok, sz => ⟨[], (fun _ h => nomatch h), by
    have fit := Nat.le_trans (rok_shx (.str x) ok) (big_le sz)
    simp only [PyData.shown] at fit ⊢
    exact .of_is (ReprIs.str x t fit) _ _ _⟩
  | _, .list xs, _, .list (a := a) (vs := vs) h1 h2 h3 h4, ok, sz => by
    obtain ⟨bs, hb, hk⟩ := k_roks hn h4 (by simpa only [rok] using ok) (by simp only [shx] at sz; omega)
    have r : Reads h0 (.ref a) (.list xs) _ := .list h1 h2 h3 h4
    have dl : PyData.depthAll xs < (PyData.list xs).depth := by simp only [PyData.depth]; omega
    have na : a ∉ bs := not_mem_of_deeper r dl hb
    refine ⟨a :: bs, ReadAtMost.cons r (by omega) hb, ?_⟩
    simp only [PyData.depth, PyData.shown]
    obtain ⟨l⟩ := vs
    cases l with
    | nil =>
      cases (show ReadsAll h0 [] xs _ from h4)
      simp only [PyData.shownAll, listText_nil]
      exact ReprK.listEmpty h1 h2 h3
    | cons x l => exact ReprK.list h1 h2 h3 na (by simpa using hk.length_eq) fun i y e => hk.item i y (by simpa using e)
  | _, .tuple xs, _, .tuple (a := a) h1 h2 h3 h4, ok, sz => by
    obtain ⟨bs, hb, hk⟩ := k_roks hn h4 (by simpa only [rok] using ok) (by simp only [shx] at sz; omega)
    have r : Reads h0 (.ref a) (.tuple xs) _ := .tuple h1 h2 h3 h4
    have dl : PyData.depthAll xs < (PyData.tuple xs).depth := by simp only [PyData.depth]; omega
    have na : a ∉ bs := not_mem_of_deeper r dl hb
    refine ⟨a :: bs, ReadAtMost.cons r (by omega) hb, ?_⟩
    simp only [PyData.depth, PyData.shown]
    exact ReprK.tuple h1 h2 h3 na hk
  | _, .dict _, _, .dict .., ok, _ => by simp only [rok] at ok; cases ok
theorem k_roks (hn : h0.NoDigits) : ∀ {vs : List Value} {ds : List D} {as : List Addr}, ReadsAll h0 vs ds as → roks ds = true → shxs ds ≤ 16000000 →
    ∃ bs, ReadAtMost h0 (PyData.depthAll ds) bs ∧ ReprAllK P w bs h0 (PyData.depthAll ds) vs (PyData.shownAll ds)
  | _, _, _, .nil, _, _ => ⟨[], (fun _ h => nomatch h), by
    simp only [PyData.shownAll]
    exact .nil⟩
  | _, _, _, .cons (d := d) (ds := ds) r rs, ok, sz => by
    have o2 : (rok d && roks ds) = true := by simpa only [roks] using ok
    rw [Bool.and_eq_true] at o2
    simp only [shxs] at sz
    obtain ⟨b1, hb1, k1⟩ := k_rok hn r o2.1 (by omega)
    obtain ⟨b2, hb2, k2⟩ := k_roks hn rs o2.2 (by omega)
    refine ⟨b1 ++ b2, fun b hm => ?_, ?_⟩
    · simp only [PyData.depthAll]
      rcases List.mem_append.mp hm with hm | hm
      · obtain ⟨e, f, g, h⟩ := hb1 b hm
        exact ⟨e, f, g, by omega⟩
      · obtain ⟨e, f, g, h⟩ := hb2 b hm
        exact ⟨e, f, g, by omega⟩
    · simp only [PyData.depthAll, PyData.shownAll]
      exact .cons ((k1.more fun b hb => List.mem_append_left _ hb).level_le (by omega)) (k2.more_le (fun b hb => List.mem_append_right _ hb) (by omega))
end
theorem repr_rok {A : Around} {E : Value → Shared → Prop} {s : Shared} {Q : Value → Shared → Prop} {a : Addr} {d : D} {as : List Addr} (hn : h0.NoDigits) (r : Reads h0 (.ref a) d as) (ok : rok d = true) (sz : shx d ≤ 16000000)
    (hg : A.guards = some []) (hu : A.units + (d.depth + 1) < cLine) (hk0 : ∀ b o, h0.get? b = some o → s.heap.get? b = some o)
    (q : ∀ h' u tk, (∀ b o, s.heap.get? b = some o → h'.get? b = some o) → Q (.str d.shown u) { s with heap := h', toks := tk }) : wpAny (model P w) A (call (.builtin "repr") [.ref a]) Q E s := by
  have fit := Nat.le_trans (rok_shx d ok) (big_le sz)
  have hg' : A.in1.guards = some [] := hg
  cases d with
  | list xs =>
    cases r with
    | list h1 h2 h3 h4 =>
      rename_i o vs n as
      obtain ⟨bs, hb, hk⟩ := k_roks (P := P) (w := w) hn h4 (by simpa only [rok] using ok) (by simp only [shx] at sz; omega)
      have dl : PyData.depthAll xs < (PyData.list xs).depth := by simp only [PyData.depth]; omega
      have na : a ∉ bs := not_mem_of_deeper (.list h1 h2 h3 h4) dl hb
      simp only [PyData.depth] at hu
      simp only [PyData.shown] at q fit
      obtain ⟨l⟩ := vs
      refine call_repr_slot (by omega) ⟨_, hk0 _ _ h1, h2⟩ F.slot_list_repr.toG ?_
      cases l with
      | nil =>
        cases (show ReadsAll h0 [] xs _ from h4)
        simp only [PyData.shownAll, listText_nil] at q
        exact call_list_repr_empty ⟨_, hk0 _ _ h1, h2⟩ (hk0 _ _ h1) h3 ⟨_, _, rfl, q s.heap _ _ fun _ _ e => e⟩
      | cons x l => exact call_list_reprK h1 h2 h3 na (by simpa using hk.length_eq) (fun i y e => hk.item i y (by simpa using e)) hg' (fun b _ => Clear.nil b) (by show A.units + 1 + _ < cLine; omega) hk0 (fun h' u tk k => ⟨_, _, rfl, q h' u tk k⟩) fit
  | tuple xs =>
    cases r with
    | tuple h1 h2 h3 h4 =>
      obtain ⟨bs, hb, hk⟩ := k_roks (P := P) (w := w) hn h4 (by simpa only [rok] using ok) (by simp only [shx] at sz; omega)
      have dl : PyData.depthAll xs < (PyData.tuple xs).depth := by simp only [PyData.depth]; omega
      have na : a ∉ bs := not_mem_of_deeper (.tuple h1 h2 h3 h4) dl hb
      simp only [PyData.depth] at hu
      simp only [PyData.shown] at q fit
      exact call_repr_slot (by omega) ⟨_, hk0 _ _ h1, h2⟩ F.slot_tuple_repr (call_tuple_reprK h1 h2 h3 na hk hg' (fun b _ => Clear.nil b) (by show A.units + 1 + _ < cLine; omega) hk0 (fun h' u tk k => ⟨_, _, rfl, q h' u tk k⟩) fit)
  | dict _ => simp only [rok] at ok; cases ok
  | none => cases r
  | bool _ => cases r
  | int _ => cases r
  | str _ => cases r
end
theorem nd_depth : ∀ (n : Nat) (d : D), Nd n d → d.depth ≤ n
  | n, .none, _ => by simp [PyData.depth]
  | n, .bool _, _ => by simp [PyData.depth]
  | n, .int _, _ => by simp [PyData.depth]
  | n, .str _, _ => by simp [PyData.depth]
  | n + 1, .list xs, h => by
    have := nd_depths n xs h
    simp only [PyData.depth]; omega
  | n + 1, .tuple xs, h => by
    have := nd_depths n xs h
    simp only [PyData.depth]; omega
  | 0, .list xs, h => (h : False).elim
  | 0, .tuple xs, h => (h : False).elim
  | n, .dict _, h => by cases n <;> exact (h : False).elim
where nd_depths : ∀ (n : Nat) (xs : List D), (∀ x ∈ xs, Nd n x) → PyData.depthAll xs ≤ n
  | n, [], _ => by simp [PyData.depthAll]
  | n, x :: xs, h => by
    have h1 := nd_depth n x (h x List.mem_cons_self)
    have h2 := nd_depths n xs fun y hy => h y (List.mem_cons_of_mem _ hy)
    simp only [PyData.depthAll]; omega
/-- what repr shows: ints below 2^1920, a weight, a depth -/
structure Rk (d : D) (w m : Nat) : Prop where
  ok : rok d = true
  dep : Nd m d
  wt : shx d ≤ w
structure Rks (ds : List D) (w m : Nat) : Prop where
  ok : roks ds = true
  dep : ∀ d ∈ ds, Nd m d
  wt : shxs ds ≤ w
def reprOk (d : D) : Prop := ∃ w, Rk d w 20 ∧ w ≤ 15999000
section
variable {i : Int} {w v m n : Nat} {d : D} {ds : List D} {b : Bool} {x : Str}
theorem rk_int (h : Bd i 14000) : Rk (.int i) 4310 m := ⟨decide_eq_true (h.lg (Nat.le_refl _)), by cases m <;> trivial, Nat.le_refl _⟩
theorem rk_non : Rk .none 5 m := ⟨rfl, by cases m <;> trivial, by simp [shx]⟩
theorem rk_bl : Rk (.bool b) 5 m := ⟨rfl, by cases m <;> trivial, by simp [shx]⟩
theorem rk_str (h : PyData.strOk x = true) : Rk (.str x) (12 * x.length + 12) m := ⟨h, by cases m <;> trivial, Nat.le_refl _⟩
theorem rk_tup (h : Rks ds w m) : Rk (.tuple ds) (w + 3) (m + 1) := ⟨by simpa only [rok] using h.ok, h.dep, by have := h.wt; simp only [shx]; omega⟩
theorem rk_lst (h : Rks ds w m) : Rk (.list ds) (w + 3) (m + 1) := ⟨by simpa only [rok] using h.ok, h.dep, by have := h.wt; simp only [shx]; omega⟩
theorem rks_nil : Rks [] 0 m := ⟨rfl, (fun _ h => nomatch h), Nat.le_refl _⟩
theorem rks_cons (h : Rk d w m) (h2 : Rks ds v m) : Rks (d :: ds) (w + 2 + v) m :=
  ⟨by simp only [roks, h.ok, h2.ok, Bool.and_self], fun y hy => (List.mem_cons.mp hy).elim (fun e => e ▸ h.dep) (h2.dep y), by have := h.wt; have := h2.wt; simp only [shxs]; omega⟩
theorem rks_all : ∀ {ds : List D}, (∀ d ∈ ds, Rk d w m) → Rks ds ((w + 2) * ds.length) m
  | [], _ => by rw [List.length_nil, Nat.mul_zero]; exact rks_nil
  | d :: ds, h => by
    have h1 := rks_cons (h d List.mem_cons_self) (rks_all fun y hy => h y (List.mem_cons_of_mem _ hy))
    have e : w + 2 + (w + 2) * ds.length = (w + 2) * (d :: ds).length := by rw [List.length_cons, Nat.mul_succ]; omega
    rw [← e]; exact h1
theorem rks_map {α : Type} {l : List α} {f : α → Int} (h : ∀ a ∈ l, Bd (f a) 14000) : Rks (l.map fun a => .int (f a)) (4312 * l.length) m := by
  have := rks_all (w := 4310) (m := m) (ds := l.map fun a => .int (f a)) fun d hd => by
    obtain ⟨a, ha, rfl⟩ := List.mem_map.mp hd
    exact rk_int (h a ha)
  rw [List.length_map] at this
  exact this
theorem rks_ints {l : List Int} (h : ∀ a ∈ l, Bd a 14000) : Rks (l.map PyData.int) (4312 * l.length) m := rks_map (f := id) h
theorem rks_app {es : List D} (h : Rks ds w m) (h2 : Rks es v m) : Rks (ds ++ es) (w + v) m := by
  induction ds generalizing w with
  | nil => exact ⟨h2.ok, h2.dep, by have := h2.wt; simp; omega⟩
  | cons d ds ih =>
    have o := h.ok
    simp only [roks, Bool.and_eq_true] at o
    have w1 := h.wt
    simp only [shxs] at w1
    have hd : Rk d (shx d) m := ⟨o.1, h.dep d List.mem_cons_self, Nat.le_refl _⟩
    have r := rks_cons hd (ih (w := shxs ds) ⟨o.2, fun y hy => h.dep y (List.mem_cons_of_mem _ hy), Nat.le_refl _⟩)
    exact ⟨r.ok, r.dep, Nat.le_trans r.wt (by omega)⟩
end
section
variable {X : Cx} {ec : Str → Addr} {a b : Expr} {wa wb : WE} {pos : Pos}
def rReprA (K : PySem.W.Frag) : List V → Hp → VK → Prop := fun xs H Q => ∃ v d, xs = [v] ∧ Dp K H v d ∧ rok d = true ∧ d.depth ≤ 60 ∧ shx d ≤ big ∧ Q (.str d.shown) H
theorem call_reprA (hn : X.base.NoDigits) (hu : X.A.units + 200 < cLine) (hg : X.A.guards = some []) : CallR X (.builtin "repr") (rReprA X.K) := by
  intro pins s σ H xs us Q I r h
  obtain ⟨v, d, rfl, hd, ok, dep, sz, q⟩ := h
  obtain ⟨u, rfl, ru⟩ := vals1 r
  have nd : s.heap.NoDigits := hn.keeps I.bk
  have sz' : shx d ≤ 16000000 := sz
  have fit : d.shown.length ≤ sizeLine := Nat.le_trans (rok_shx d ok) (big_le sz)
  have hd0 := hd
  have fin : ∀ t, EP X pins σ Q (.str d.shown t) { s with toks := s.toks + 1 } := fun t => ⟨.str d.shown, H, I.tok _, ⟨t, rfl⟩, q⟩
  cases hd with
  | non => cases ru; exact PySem.P.repr_of_none (by simpa only [PyData.shown] using fin _)
  | bl c => cases ru; exact PySem.P.repr_of_bool (by simpa only [PyData.shown] using fin _)
  | int i =>
    obtain ⟨t, rfl⟩ := ru
    refine call_repr_slot (by omega) (typeIs_int s i t) F.slot_int_repr.toG (call_int_big nd (of_decide_eq_true (by simpa only [rok] using ok)) ⟨_, _, rfl, ?_⟩)
    simpa only [PyData.shown] using fin _
  | str x =>
    obtain ⟨t, rfl⟩ := ru
    exact PySem.P.repr_of_str (by simpa only [PyData.shown] using fin _) (by simpa only [PyData.shown] using fit)
  | lst _ _ =>
    cases ru
    obtain ⟨as, rd⟩ := Dp.reads I _ _ _ hd0 rfl
    exact repr_rok nd rd ok sz' hg (by omega) (fun _ _ e => e) fun h' u tk k => ⟨.str _, H, I.kept k, ⟨u, rfl⟩, q⟩
  | tup _ _ =>
    cases ru
    obtain ⟨as, rd⟩ := Dp.reads I _ _ _ hd0 rfl
    exact repr_rok nd rd ok sz' hg (by omega) (fun _ _ e => e) fun h' u tk k => ⟨.str _, H, I.kept k, ⟨u, rfl⟩, q⟩
/-- repr(a) != repr(b), repr(a) == repr(b), where both are the same -/
def rnK (wb : WE) (ρ : Rho) (E : Str → Prop) (eq : Bool) (Q : W → Prop) (x : W) : Prop := ∃ d, x.dat = some d ∧ reprOk d ∧ wb ρ (fun y => y.dat = some d ∧ Q (.d (.bool eq))) E
def wRN (eq : Bool) (wa wb : WE) : WE := fun ρ Q E => wa ρ (rnK wb ρ E eq Q) E
theorem rn_go {op : CmpOp} {r : R2} {eq : Bool} (hr : ∀ (t : Str) (H : Hp) (Q : VK), Q (.bl eq) H → r (.str t) (.str t) H Q) {G : Gh} {σ : St} {H : Hp} {ρ : Rho} {Q : W → Prop} {E : Str → Prop} {Q' : VK} (hK : G.K = X.K) (s : Sta G σ H ρ) (tk : Tk X ec G σ H E)
    (ha : SimE X ec a wa) (hb : SimE X ec b wb) (h : wRN eq wa wb ρ Q E) (k : ∀ H' z, Ext G H H' → z = .d (.bool eq) → Q z → Q' (.bl eq) H') : tOp r (tCB (rReprA X.K) (tCons (tU X a) tNil)) (tCB (rReprA X.K) (tCons (tU X b) tNil)) σ H Q' := by
  refine (ha.run G σ H ρ _ E hK s tk h).mono fun v H1 ⟨x, e1, r1, d, ed, ⟨wt, ok, hw⟩, h1⟩ => ?_
  have s1 := s.ext e1
  have dd : d.depth ≤ 60 := by have := nd_depth 20 d ok.dep; omega
  have db : shx d ≤ big := Nat.le_trans ok.wt (by simp only [big]; omega)
  refine ⟨v, d, rfl, hK ▸ r1.dat ed ok.dep, ok.ok, dd, db, ?_⟩
  refine (hb.run G σ H1 ρ _ E hK s1 (tk.go e1) h1).mono fun u H2 ⟨y, e2, r2, ey, q⟩ => ?_
  exact ⟨u, d, rfl, hK ▸ r2.dat ey ok.dep, ok.ok, dd, db, hr _ _ _ (k H2 _ (e1.trans e2) rfl q)⟩
section
variable {k : Nat} (hn : X.base.NoDigits) (hr : Room k X.A) (hg : X.A.guards = some []) (gl : Gl X "repr") (gm : X.mg "repr" = none) {p1 p2 q1 q2 : Pos} (hsa : starEach [a] X.env = (false, eval a X.env) :: starEach [] X.env) (hsb : starEach [b] X.env = (false, eval b X.env) :: starEach [] X.env)
include hn hr hg gl gm hsa hsb
theorem sim_rnN (ha : SimE X ec a wa) (hb : SimE X ec b wb) : SimE X ec (.Compare (.Call (.Name "repr" p1) [a] [] q1) [.NotEq] [.Call (.Name "repr" p2) [b] [] q2] pos) (wRN false wa wb) := by
  refine ⟨fun G σ H ρ Q E hK s tk h => peu (pe_cmpR op_ne (pe_callB (call_reprA hn (Room.u200 hr) hg) gl gm rfl (pa_cons peU pa_nil hsa) (by decide) (by decide) hsa rfl) (pe_callB (call_reprA hn (Room.u200 hr) hg) gl gm rfl (pa_cons peU pa_nil hsb) (by decide) (by decide) hsb rfl) rfl) ?_⟩
  exact rn_go (op := .NotEq) (r := rNe) (fun t H Q q => ⟨rfl, by simpa using q⟩) hK s tk ha hb h fun H' z x e q => ⟨z, x, by subst e; exact Rp.bl _, q⟩
theorem sim_rnE (ha : SimE X ec a wa) (hb : SimE X ec b wb) : SimE X ec (.Compare (.Call (.Name "repr" p1) [a] [] q1) [.Eq] [.Call (.Name "repr" p2) [b] [] q2] pos) (wRN true wa wb) := by
  refine ⟨fun G σ H ρ Q E hK s tk h => peu (pe_cmpR op_eq (pe_callB (call_reprA hn (Room.u200 hr) hg) gl gm rfl (pa_cons peU pa_nil hsa) (by decide) (by decide) hsa rfl) (pe_callB (call_reprA hn (Room.u200 hr) hg) gl gm rfl (pa_cons peU pa_nil hsb) (by decide) (by decide) hsb rfl) rfl) ?_⟩
  exact rn_go (op := .Eq) (r := rEq) (fun t H Q q => ⟨rfl, by simpa using q⟩) hK s tk ha hb h fun H' z x e q => ⟨z, x, by subst e; exact Rp.bl _, q⟩
theorem simt_rnN (ha : SimE X ec a wa) (hb : SimE X ec b wb) : SimT X ec (.Compare (.Call (.Name "repr" p1) [a] [] q1) [.NotEq] [.Call (.Name "repr" p2) [b] [] q2] pos) (wB (wRN false wa wb)) := by
  refine ⟨fun G σ H ρ Q E hK s tk h => ptu (pt_cmpR op_ne (pe_callB (call_reprA hn (Room.u200 hr) hg) gl gm rfl (pa_cons peU pa_nil hsa) (by decide) (by decide) hsa rfl) (pe_callB (call_reprA hn (Room.u200 hr) hg) gl gm rfl (pa_cons peU pa_nil hsb) (by decide) (by decide) hsb rfl) rfl) ?_⟩
  exact rn_go (op := .NotEq) (r := rNe) (fun t H Q q => ⟨rfl, by simpa using q⟩) hK s tk ha hb h fun H' z x e q => ⟨false, rfl, x, by subst e; exact q⟩
theorem simt_rnE (ha : SimE X ec a wa) (hb : SimE X ec b wb) : SimT X ec (.Compare (.Call (.Name "repr" p1) [a] [] q1) [.Eq] [.Call (.Name "repr" p2) [b] [] q2] pos) (wB (wRN true wa wb)) := by
  refine ⟨fun G σ H ρ Q E hK s tk h => ptu (pt_cmpR op_eq (pe_callB (call_reprA hn (Room.u200 hr) hg) gl gm rfl (pa_cons peU pa_nil hsa) (by decide) (by decide) hsa rfl) (pe_callB (call_reprA hn (Room.u200 hr) hg) gl gm rfl (pa_cons peU pa_nil hsb) (by decide) (by decide) hsb rfl) rfl) ?_⟩
  exact rn_go (op := .Eq) (r := rEq) (fun t H Q q => ⟨rfl, by simpa using q⟩) hK s tk ha hb h fun H' z x e q => ⟨true, rfl, x, by subst e; exact q⟩
end
end
section
variable {ρ : Rho} {E : Str → Prop} {Q : W → Prop} {wa wb : WE} {x y : W} {d e : D} {eq : Bool}
def rnK2 (d : D) (eq : Bool) (Q : W → Prop) (y : W) : Prop := y.dat = some d ∧ Q (.d (.bool eq))
instance i_wRN : Stp (wRN eq wa wb ρ Q E) (wa ρ (rnK wb ρ E eq Q) E) := ⟨fun q => q⟩
instance i_rnK [c : Dt x d] : Stp (rnK wb ρ E eq Q x) (Sd (reprOk d) (wb ρ (rnK2 d eq Q) E)) := ⟨fun q => ⟨d, c.eq, q.c, q.b⟩⟩
instance i_rnK2 [c : Dt y e] : Stp (rnK2 d eq Q y) (Sd (d = e) (Q (.d (.bool eq)))) := ⟨fun q => ⟨by rw [q.c]; exact c.eq, q.b⟩⟩
end
/-! ### 35. lists of ints by place -/
def tab (f : Nat → Int) (n : Nat) : List D := (List.range n).map fun i => .int (f i)
section
variable {f g : Nat → Int} {n m i k : Nat}
@[simp] theorem tab_len : (tab f n).length = n := by simp [tab]
theorem tab_zero : tab f 0 = [] := rfl
theorem tab_succ : tab f (n + 1) = tab f n ++ [.int (f n)] := by
  unfold tab
  rw [List.range_succ, List.map_append]
  rfl
theorem tab_cons : tab f (n + 1) = .int (f 0) :: tab (fun i => f (i + 1)) n := by
  unfold tab
  rw [List.range_succ_eq_map, List.map_cons, List.map_map]
  rfl
theorem tab_at (h : i < n) : (tab f n)[i]? = some (.int (f i)) := by
  unfold tab
  rw [List.getElem?_map, List.getElem?_range h]
  rfl
theorem tab_atI {i : Int} (h0 : 0 ≤ i) (h : i < n) : L2.atI (tab f n) i = some (.int (f i.toNat)) := by rw [atI_nn h0 (by simpa using h), tab_at (by omega)]
theorem tab_neg (h0 : 0 < k) (h : k ≤ n) : L2.atI (tab f n) (-(k : Int)) = some (.int (f (n - k))) := by rw [atI_neg h0 (by simpa using h), tab_len, tab_at (by omega)]
theorem tab_take : (tab f n).take m = tab f (min m n) := by
  unfold tab
  rw [← List.map_take, List.take_range]
theorem tab_drop : (tab f n).drop m = tab (fun i => f (i + m)) (n - m) := by
  apply List.ext_getElem?
  intro i
  rw [List.getElem?_drop]
  by_cases h : i < n - m
  · rw [tab_at h, tab_at (by omega), Nat.add_comm]
  · rw [List.getElem?_eq_none (by simp; omega), List.getElem?_eq_none (by simp; omega)]
theorem tab_congr (h : ∀ i < n, f i = g i) : tab f n = tab g n := by
  unfold tab
  refine List.map_congr_left fun i hi => ?_
  rw [h i (by simpa using hi)]
theorem tab_rev : (tab f n).reverse = tab (fun i => f (n - 1 - i)) n := by
  apply List.ext_getElem?
  intro i
  by_cases h : i < n
  · rw [List.getElem?_reverse (by simpa using h), tab_len, tab_at h, tab_at (by omega)]
  · rw [List.getElem?_eq_none (by simpa using Nat.le_of_not_lt h), List.getElem?_eq_none (by simpa using Nat.le_of_not_lt h)]
theorem tab_app : tab f n ++ tab g m = tab (fun i => if i < n then f i else g (i - n)) (n + m) := by
  apply List.ext_getElem?
  intro i
  by_cases h : i < n
  · rw [List.getElem?_append_left (by simpa using h), tab_at h, tab_at (by omega), if_pos h]
  · rw [List.getElem?_append_right (by simpa using Nat.le_of_not_lt h), tab_len]
    by_cases h2 : i < n + m
    · rw [tab_at h2, tab_at (by omega), if_neg h]
    · rw [List.getElem?_eq_none (by simp; omega), List.getElem?_eq_none (by simp; omega)]
theorem tab_mem {d : D} (h : d ∈ tab f n) : ∃ i, i < n ∧ d = .int (f i) := by
  obtain ⟨i, hi, e⟩ := List.mem_map.mp h
  exact ⟨i, by simpa using hi, e.symm⟩
theorem tab_set {x : Int} (h : m < n) : (tab f n).set m (.int x) = tab (fun i => if i = m then x else f i) n := by
  apply List.ext_getElem?
  intro i
  by_cases hi : i < n
  · rw [tab_at hi]
    by_cases e : i = m
    · subst e; rw [List.getElem?_set_self (by simpa using hi), if_pos rfl]
    · rw [List.getElem?_set_ne (Ne.symm e), tab_at hi, if_neg e]
  · rw [List.getElem?_eq_none (by simpa using Nat.le_of_not_lt hi), List.getElem?_eq_none (by simpa using Nat.le_of_not_lt hi)]
theorem ints_tab (l : List Int) : l.map PyData.int = tab (fun i => l.getD i 0) l.length := by
  apply List.ext_getElem?
  intro i
  by_cases h : i < l.length
  · rw [tab_at h, List.getElem?_map]; simp [h]
  · rw [List.getElem?_eq_none (by simpa using Nat.le_of_not_lt h), List.getElem?_eq_none (by simpa using Nat.le_of_not_lt h)]
theorem tab_ints : tab f n = ((List.range n).map f).map PyData.int := by rw [List.map_map]; rfl
theorem tab_map {F : D → D} {h : Int → Int} (e : ∀ i < n, F (.int (f i)) = .int (h (f i))) : (tab f n).map F = tab (fun i => h (f i)) n := by
  unfold tab
  rw [List.map_map]
  refine List.map_congr_left fun i hi => ?_
  exact e i (by simpa using hi)
theorem range_tab {lo : Int} : rangeD lo n = tab (fun i => lo + i) n := rfl
theorem shp_tabT : Shp 60 (.tuple (tab f n)) := fun d h => by obtain ⟨i, _, rfl⟩ := tab_mem h; trivial
theorem shp_tabL : Shp 60 (.list (tab f n)) := fun d h => by obtain ⟨i, _, rfl⟩ := tab_mem h; trivial
theorem shp_intsT {l : List Int} : Shp (k + 2) (.tuple (l.map PyData.int)) := fun d h => by obtain ⟨i, _, rfl⟩ := List.mem_map.mp h; trivial
theorem shp_intsL {l : List Int} : Shp (k + 2) (.list (l.map PyData.int)) := fun d h => by obtain ⟨i, _, rfl⟩ := List.mem_map.mp h; trivial
theorem rks_tab (h : ∀ i < n, Bd (f i) 14000) : Rks (tab f n) (4312 * n) m := by
  have := rks_map (l := List.range n) (f := f) (m := m) fun a ha => h a (by simpa using ha)
  rw [List.length_range] at this
  exact this
theorem tab_isI : ∀ d ∈ tab f n, isI d := fun d h => by obtain ⟨i, _, rfl⟩ := tab_mem h; trivial
theorem ints_isI {l : List Int} : ∀ d ∈ l.map PyData.int, isI d := fun d h => by obtain ⟨i, _, rfl⟩ := List.mem_map.mp h; trivial
theorem eqv_eq {d e : D} (h : Shp 60 d) (q : d = e) : PyData.eqv d e = true := by rw [← q]; exact PySem.SeqAt.eqv_refl d (Shp.lay 60 d h).1
theorem cutD_upto {ds : List D} {m : Int} (h : 0 ≤ m) : cutD ds none (some m) = ds.take m.toNat := by
  unfold cutD
  have e1 : HT.sIx ds.length ds.length (some m) = min m.toNat ds.length := by simp only [HT.sIx]; split <;> omega
  rw [show HT.sIx ds.length 0 none = 0 from rfl, e1, List.drop_zero, Nat.sub_zero, ← List.take_eq_take_min]
theorem cutD_from {ds : List D} {m : Int} (h : 0 ≤ m) : cutD ds (some m) none = ds.drop m.toNat := by
  unfold cutD
  have e1 : HT.sIx ds.length 0 (some m) = min m.toNat ds.length := by simp only [HT.sIx]; split <;> omega
  rw [e1, show HT.sIx ds.length ds.length none = ds.length from rfl, List.take_of_length_le (by simp)]
  by_cases q : m.toNat ≤ ds.length
  · rw [Nat.min_eq_left q]
  · rw [Nat.min_eq_right (by omega), List.drop_of_length_le (by omega), List.drop_of_length_le (by omega)]
theorem cutD_all {ds : List D} : cutD ds none none = ds := by
  unfold cutD
  rw [show HT.sIx ds.length 0 none = 0 from rfl, show HT.sIx ds.length ds.length none = ds.length from rfl]
  simp
theorem cutD_butlast {ds : List D} : cutD ds none (some (-1)) = ds.dropLast := by
  unfold cutD
  have e1 : HT.sIx ds.length ds.length (some (-1)) = ds.length - 1 := by simp only [HT.sIx]; rw [if_pos (by decide)]; omega
  rw [show HT.sIx ds.length 0 none = 0 from rfl, e1, List.drop_zero, Nat.sub_zero, List.dropLast_eq_take]
theorem cutD_mid {ds : List D} {a b : Int} (ha : 0 ≤ a) (hb : 0 ≤ b) : cutD ds (some a) (some b) = (ds.take b.toNat).drop a.toNat := by
  unfold cutD
  have e1 : HT.sIx ds.length 0 (some a) = min a.toNat ds.length := by simp only [HT.sIx]; split <;> omega
  have e2 : HT.sIx ds.length ds.length (some b) = min b.toNat ds.length := by simp only [HT.sIx]; split <;> omega
  rw [e1, e2]
  apply List.ext_getElem?
  intro i
  rw [List.getElem?_take, List.getElem?_drop, List.getElem?_drop, List.getElem?_take]
  by_cases q : i < min b.toNat ds.length - min a.toNat ds.length
  · rw [if_pos q, if_pos (by omega)]
    congr 1; omega
  · rw [if_neg q]
    split
    · rw [List.getElem?_eq_none (by omega)]
    · rfl
theorem cutD_inner {ds : List D} {a : Int} (ha : 0 ≤ a) : cutD ds (some a) (some (-1)) = ds.dropLast.drop a.toNat := by
  unfold cutD
  have e1 : HT.sIx ds.length 0 (some a) = min a.toNat ds.length := by simp only [HT.sIx]; split <;> omega
  have e2 : HT.sIx ds.length ds.length (some (-1)) = ds.length - 1 := by simp only [HT.sIx]; rw [if_pos (by decide)]; omega
  rw [e1, e2, List.dropLast_eq_take]
  apply List.ext_getElem?
  intro i
  rw [List.getElem?_take, List.getElem?_drop, List.getElem?_drop, List.getElem?_take]
  by_cases q : i < ds.length - 1 - min a.toNat ds.length
  · rw [if_pos q, if_pos (by omega)]
    congr 1; omega
  · rw [if_neg q]
    split
    · rw [List.getElem?_eq_none (by omega)]
    · rfl
end
section
variable {Q : W → Prop} {f : Nat → Int} {n : Nat} {i : Int} {x : W} {l : List Int}
instance i_tabI [c : Sq x (tab f n)] : Stp (wIx x (.d (.int i)) Q) (Sd (0 ≤ i ∧ i < n) (Q (.d (.int (f i.toNat))))) := ⟨fun z => wIx_i c.eq (tab_atI z.c.1 z.c.2) z.b⟩
instance i_tab1 [c : Sq x (tab f n)] : Stp (wIx x (.d (.int (-1))) Q) (Sd (1 ≤ n) (Q (.d (.int (f (n - 1)))))) := ⟨fun z => wIx_i c.eq (tab_neg (k := 1) (by decide) z.c) z.b⟩
instance i_tab2 [c : Sq x (tab f n)] : Stp (wIx x (.d (.int (-2))) Q) (Sd (2 ≤ n) (Q (.d (.int (f (n - 2)))))) := ⟨fun z => wIx_i c.eq (tab_neg (k := 2) (by decide) z.c) z.b⟩
theorem ints_atI0 (h0 : 0 ≤ i) (h : i < l.length) : L2.atI (l.map PyData.int) i = some (.int (l.getD i.toNat 0)) := by rw [ints_tab, tab_atI h0 h]
theorem ints_neg0 {k : Nat} (h0 : 0 < k) (h : k ≤ l.length) : L2.atI (l.map PyData.int) (-(k : Int)) = some (.int (l.getD (l.length - k) 0)) := by rw [ints_tab, tab_neg h0 h]
instance i_intsI [c : Sq x (l.map PyData.int)] : Stp (wIx x (.d (.int i)) Q) (Sd (0 ≤ i ∧ i < l.length) (Q (.d (.int (l.getD i.toNat 0))))) := ⟨fun z => wIx_i c.eq (ints_atI0 z.c.1 z.c.2) z.b⟩
instance i_ints1 [c : Sq x (l.map PyData.int)] : Stp (wIx x (.d (.int (-1))) Q) (Sd (1 ≤ l.length) (Q (.d (.int (l.getD (l.length - 1) 0))))) := ⟨fun z => wIx_i c.eq (ints_neg0 (k := 1) (by decide) z.c) z.b⟩
instance i_ints2 [c : Sq x (l.map PyData.int)] : Stp (wIx x (.d (.int (-2))) Q) (Sd (2 ≤ l.length) (Q (.d (.int (l.getD (l.length - 2) 0))))) := ⟨fun z => wIx_i c.eq (ints_neg0 (k := 2) (by decide) z.c) z.b⟩
end
theorem ite_nqE {a b : D} {A B : Prop} (hs : Shp 60 a) (h : a = b) (q : B) : if (!PyData.eqv a b) = true then A else B := by rw [eqv_eq hs h]; exact q
/-! ### 36. data read as ints, as pairs of ints -/
def allI (ds : List D) : Prop := ∀ d ∈ ds, isI d
@[simp] theorem ints_asI (l : List Int) : (l.map PyData.int).map asI = l := by
  rw [List.map_map]
  exact List.map_id'' (fun _ => rfl) l
theorem allI_get : ∀ {ds : List D}, allI ds → ∃ l : List Int, ds = l.map PyData.int
  | [], _ => ⟨[], rfl⟩
  | d :: ds, h => by
    obtain ⟨l, e⟩ := allI_get fun y hy => h y (List.mem_cons_of_mem _ hy)
    have := h d List.mem_cons_self
    cases d <;> first | exact ⟨_ :: l, by rw [e]; rfl⟩ | exact False.elim this
class In (ds : List D) (l : outParam (List Int)) : Prop where
  eq : ds = l.map PyData.int
instance in_map {l : List Int} : In (l.map PyData.int) l := ⟨rfl⟩
instance in_tab {f : Nat → Int} {n : Nat} : In (tab f n) ((List.range n).map f) := ⟨tab_ints⟩
instance in_nil : In [] [] := ⟨rfl⟩
instance in_cons {i : Int} {ds : List D} {l : List Int} [h : In ds l] : In (.int i :: ds) (i :: l) := ⟨by rw [h.eq]; rfl⟩
theorem In.all {ds : List D} {l : List Int} (h : In ds l) : allI ds := by rw [h.eq]; exact ints_isI
theorem In.as {ds : List D} {l : List Int} (h : In ds l) : ds.map asI = l := by rw [h.eq, ints_asI]
/-- a pair of ints -/
abbrev prD (p : Int × Int) : D := .tuple [.int p.1, .int p.2]
def isP : D → Prop
  | .tuple [.int _, .int _] => True
  | _ => False
def asP : D → Int × Int
  | .tuple [.int a, .int b] => (a, b)
  | _ => (0, 0)
def allP (ds : List D) : Prop := ∀ d ∈ ds, isP d
@[simp] theorem prs_asP (l : List (Int × Int)) : (l.map prD).map asP = l := by
  rw [List.map_map]
  exact List.map_id'' (fun _ => rfl) l
theorem isP_get {d : D} (h : isP d) : ∃ p, d = prD p := by
  unfold isP at h
  split at h
  · rename_i a b; exact ⟨(a, b), rfl⟩
  · exact h.elim
theorem allP_get : ∀ {ds : List D}, allP ds → ∃ l : List (Int × Int), ds = l.map prD
  | [], _ => ⟨[], rfl⟩
  | d :: ds, h => by
    obtain ⟨l, e⟩ := allP_get fun y hy => h y (List.mem_cons_of_mem _ hy)
    obtain ⟨p, rfl⟩ := isP_get (h d List.mem_cons_self)
    exact ⟨p :: l, by rw [e]; rfl⟩
class Ip (ds : List D) (l : outParam (List (Int × Int))) : Prop where
  eq : ds = l.map prD
instance ip_map {l : List (Int × Int)} : Ip (l.map prD) l := ⟨rfl⟩
instance ip_nil : Ip [] [] := ⟨rfl⟩
instance ip_cons {i j : Int} {ds : List D} {l : List (Int × Int)} [h : Ip ds l] : Ip (.tuple [.int i, .int j] :: ds) ((i, j) :: l) := ⟨by rw [h.eq]; rfl⟩
theorem Ip.all {ds : List D} {l : List (Int × Int)} (h : Ip ds l) : allP ds := by
  rw [h.eq]
  intro d hd
  obtain ⟨p, _, rfl⟩ := List.mem_map.mp hd
  trivial
theorem Ip.as {ds : List D} {l : List (Int × Int)} (h : Ip ds l) : ds.map asP = l := by rw [h.eq, prs_asP]
/-- an argument that is a list, none of one's own -/
class Lr (x : W) (ds : outParam (List D)) : Prop where
  arg : x.arg = .d (.list ds)
  no : x.isOw = false
instance lr_d {ds : List D} : Lr (.d (.list ds)) ds := ⟨rfl, rfl⟩
instance lr_f {ds : List D} : Lr (.fr ds) ds := ⟨rfl, rfl⟩
theorem shp_prsT {l : List (Int × Int)} : Shp 60 (.tuple (l.map prD)) := fun d h => by
  obtain ⟨p, _, rfl⟩ := List.mem_map.mp h
  intro x hx
  simp at hx
  rcases hx with rfl | rfl <;> trivial
theorem shp_prsL {l : List (Int × Int)} : Shp 60 (.list (l.map prD)) := fun d h => by
  obtain ⟨p, _, rfl⟩ := List.mem_map.mp h
  intro x hx
  simp at hx
  rcases hx with rfl | rfl <;> trivial
theorem rks_prs {l : List (Int × Int)} {m : Nat} (h : ∀ p ∈ l, Bd p.1 14000 ∧ Bd p.2 14000) : Rks (l.map prD) (8629 * l.length) (m + 1) := by
  have := rks_all (w := 8627) (m := m + 1) (ds := l.map prD) fun d hd => by
    obtain ⟨p, hp, rfl⟩ := List.mem_map.mp hd
    have r := rk_tup (rks_cons (rk_int (m := m) (h p hp).1) (rks_cons (rk_int (h p hp).2) rks_nil))
    exact ⟨r.ok, r.dep, Nat.le_trans r.wt (by omega)⟩
  rw [List.length_map] at this
  exact this
/-! ### 37. lengths -/
class Ln (ds : List D) (n : outParam Nat) : Prop where
  eq : ds.length = n
section
variable {ds es : List D} {n m : Nat} {d : D} {Q : W → Prop} {x : W} {lo : Int} {f : Nat → Int}
instance (priority := low) ln_any : Ln ds ds.length := ⟨rfl⟩
instance ln_map {α : Type} {l : List α} {f : α → D} : Ln (l.map f) l.length := ⟨List.length_map ..⟩
instance ln_tab : Ln (tab f n) n := ⟨tab_len⟩
instance ln_app [a : Ln ds n] [b : Ln es m] : Ln (ds ++ es) (n + m) := ⟨by rw [List.length_append, a.eq, b.eq]⟩
instance ln_nil : Ln [] 0 := ⟨rfl⟩
instance ln_cons [a : Ln ds n] : Ln (d :: ds) (n + 1) := ⟨by rw [List.length_cons, a.eq]⟩
instance ln_rev [a : Ln ds n] : Ln ds.reverse n := ⟨by rw [List.length_reverse, a.eq]⟩
instance ln_range : Ln (rangeD lo n) n := ⟨rangeD_len⟩
instance ln_enum [a : Ln ds n] : Ln (enumD ds) n := ⟨by rw [enumD_len, a.eq]⟩
instance ln_rep {k : Nat} : Ln (List.replicate k d) k := ⟨List.length_replicate ..⟩
instance i_lenN [c : Ls x ds] [a : Ln ds n] : Stp (bLen [x] Q) (Q (.d (.int n))) := ⟨fun q => bLen_l c.eq (by rw [a.eq]; exact q)⟩
instance i_lenT [a : Ln ds n] : Stp (bLen [.d (.tuple ds)] Q) (Q (.d (.int n))) := ⟨fun q => by show Q (.d (.int ds.length)); rw [a.eq]; exact q⟩
end
theorem tab_next {f : Nat → Int} {n : Nat} {x : Int} (h : x = f n) : tab f n ++ [.int x] = tab f (n + 1) := by rw [tab_succ, h]
theorem enum_ints {l : List Int} {i : Nat} {d : D} (h : (enumD (l.map PyData.int))[i]? = some d) : i < l.length ∧ d = .tuple [.int (i : Nat), .int (l.getD i 0)] := by
  obtain ⟨x, hx, rfl⟩ := enumD_get h
  rw [List.getElem?_map] at hx
  have hi : i < l.length := by
    cases e : l[i]? with
    | none => rw [e] at hx; cases hx
    | some y => exact (List.getElem?_eq_some_iff.mp e).1
  have ex : PyData.int (l.getD i 0) = x := by simpa [hi] using hx
  exact ⟨hi, by rw [ex]⟩
theorem ints_at {l : List Int} {i : Nat} {d : D} (h : (l.map PyData.int)[i]? = some d) : i < l.length ∧ d = .int (l.getD i 0) := by
  rw [List.getElem?_map] at h
  have hi : i < l.length := by
    cases e : l[i]? with
    | none => rw [e] at h; cases h
    | some y => exact (List.getElem?_eq_some_iff.mp e).1
  refine ⟨hi, ?_⟩
  have ex : PyData.int (l.getD i 0) = d := by simpa [hi] using h
  exact ex.symm
theorem getD_mem {l : List Int} {i : Nat} (h : i < l.length) : l.getD i 0 ∈ l := by
  have : l.getD i 0 = l[i] := by simp [h]
  rw [this]; exact List.getElem_mem h
theorem app_last {ds : List D} {d : D} : L2.atI (ds ++ [d]) (-1) = some d := by
  rw [show (-1 : Int) = -((1 : Nat) : Int) from rfl, atI_neg (by decide) (by simp)]
  simp
theorem app_ahead {f : Nat → Int} {n : Nat} {d : D} (h : 1 ≤ n) : L2.atI (tab f n ++ [d]) (-2) = some (.int (f (n - 1))) := by
  rw [show (-2 : Int) = -((2 : Nat) : Int) from rfl, atI_neg (by decide) (by simp; omega), List.length_append, tab_len]
  show (tab f n ++ [d])[n + 1 - 2]? = _
  rw [List.getElem?_append_left (by simp; omega), tab_at (by omega)]
  congr 3
instance i_ixA1 {Q : W → Prop} {ds : List D} {d : D} {x : W} [c : Sq x (ds ++ [d])] : Stp (wIx x (.d (.int (-1))) Q) (Q (.d d)) := ⟨fun q => wIx_i c.eq app_last q⟩
instance i_ixA2 {Q : W → Prop} {f : Nat → Int} {n : Nat} {d : D} {x : W} [c : Sq x (tab f n ++ [d])] : Stp (wIx x (.d (.int (-2))) Q) (Sd (1 ≤ n) (Q (.d (.int (f (n - 1)))))) := ⟨fun q => wIx_i c.eq (app_ahead q.c) q.b⟩
/-- a comprehension of ints of which one thing is known -/
theorem wLcK_ints {pt : Pt} {vs : List Nat} {we : WE} {ρ : Rho} {Q : W → Prop} {ds : List D} (P : Int → Prop) (hn : noOw vs ρ) (hb : ds.length ≤ big)
    (h : ∀ d ∈ ds, ∀ k : D → Prop, (∀ x, P x → k (.int x)) → pt.bind d (wipeR ρ vs) fun ρ2 => we ρ2 (fun z => z.clnK k) (fun _ => False)) (q : ∀ l : List Int, l.length = ds.length → (∀ x ∈ l, P x) → Q (.fr (l.map PyData.int))) : wLcK pt vs wtYes we ρ Q ds := by
  refine wLcK_rel (fun _ y => ∃ x, y = .int x ∧ P x) hn hb (fun d hd k hk => h d hd k fun x hx => hk _ ⟨x, rfl, hx⟩) fun ys hl hr => ?_
  have hI : allI ys := fun y hy => by
    obtain ⟨i, hi⟩ := List.getElem?_of_mem hy
    have hi2 : i < ds.length := by rw [← hl]; exact (List.getElem?_eq_some_iff.mp hi).1
    obtain ⟨x, rfl, _⟩ := hr i _ y (List.getElem?_eq_getElem hi2) hi
    trivial
  obtain ⟨l, rfl⟩ := allI_get hI
  refine q l (by simpa using hl) fun x hx => ?_
  obtain ⟨i, hi⟩ := List.getElem?_of_mem hx
  have hi1 := (List.getElem?_eq_some_iff.mp hi).1
  have hi2 : i < ds.length := by rw [← hl]; simpa using hi1
  obtain ⟨y, e, hy⟩ := hr i _ (.int x) (List.getElem?_eq_getElem hi2) (by rw [List.getElem?_map, hi]; rfl)
  cases e
  exact hy
/-! ### 38. written lists walked item by item -/
def lcGo (pt : Pt) (vs : List Nat) (wt : WT) (we : WE) (ρ : Rho) (Q : W → Prop) : List D → List D → Prop
  | [], acc => Q (.fr acc)
  | d :: ds, acc => pt.bind d (wipeR ρ vs) fun ρ2 => wt ρ2 (fun b => if b = true then we ρ2 (fun z => z.clnK fun y => acc.length < big ∧ lcGo pt vs wt we ρ Q ds (acc ++ [y])) (fun _ => False) else lcGo pt vs wt we ρ Q ds acc) (fun _ => False)
theorem drop_cons {ds : List D} {i : Nat} {d : D} (h : ds[i]? = some d) : ds.drop i = d :: ds.drop (i + 1) := by
  obtain ⟨hi, e⟩ := List.getElem?_eq_some_iff.mp h
  rw [← e]; exact List.drop_eq_getElem_cons hi
theorem wLcK_run {pt : Pt} {vs : List Nat} {wt : WT} {we : WE} {ρ : Rho} {Q : W → Prop} {ds : List D} (hn : noOw vs ρ) (h : lcGo pt vs wt we ρ Q ds []) : wLcK pt vs wt we ρ Q ds := by
  refine ⟨hn, fun i acc => lcGo pt vs wt we ρ Q (ds.drop i) acc, h, fun i d acc hd hi => ?_, fun acc hi => ?_⟩
  · have hi : lcGo pt vs wt we ρ Q (ds.drop i) acc := hi
    rw [drop_cons hd] at hi
    exact hi
  · have hi : lcGo pt vs wt we ρ Q (ds.drop ds.length) acc := hi
    rw [List.drop_length] at hi
    exact hi
def forGo (pt : Pt) (w : WS) (O : Out) : List D → Rho → Prop
  | [], ρ => O.nx ρ
  | d :: ds, ρ => pt.bind d ρ fun ρ2 => w ρ2 { O with nx := forGo pt w O ds, ct := forGo pt w O ds, bk := O.nx }
theorem forK_run {pt : Pt} {w : WS} {ρ : Rho} {ds : List D} {nx bk ct : Rho → Prop} {rt : W → Prop} {ex : Str → Rho → Prop} (h : forGo pt w ⟨nx, rt, bk, ct, ex⟩ ds ρ) : forK pt w ρ ⟨nx, rt, bk, ct, ex⟩ ds := by
  refine ⟨fun i ρ' => forGo pt w ⟨nx, rt, bk, ct, ex⟩ (ds.drop i) ρ', h, fun i d ρ' hd hi => ?_, fun ρ' hi => ?_⟩
  · have hi : forGo pt w ⟨nx, rt, bk, ct, ex⟩ (ds.drop i) ρ' := hi
    rw [drop_cons hd] at hi
    exact hi
  · have hi : forGo pt w ⟨nx, rt, bk, ct, ex⟩ (ds.drop ds.length) ρ' := hi
    rw [List.drop_length] at hi
    exact hi
class Lit (ds : List D) : Prop where
  t : True
instance lit_n : Lit [] := ⟨trivial⟩
instance lit_c {d : D} {ds : List D} [Lit ds] : Lit (d :: ds) := ⟨trivial⟩
section
variable {pt : Pt} {vs : List Nat} {wt : WT} {we : WE} {w : WS} {ρ : Rho} {Q : W → Prop} {ds acc : List D} {d : D} {nx bk ct : Rho → Prop} {rt : W → Prop} {ex : Str → Rho → Prop} {x : W}
def lcK2 (pt : Pt) (vs : List Nat) (wt : WT) (we : WE) (ρ : Rho) (Q : W → Prop) (ds acc : List D) (z : W) : Prop := z.clnK fun y => acc.length < big ∧ lcGo pt vs wt we ρ Q ds (acc ++ [y])
instance i_lcLit [Lit ds] : Stp (wLcK pt vs wt we ρ Q ds) (Sd (noOw vs ρ) (lcGo pt vs wt we ρ Q ds [])) := ⟨fun z => wLcK_run z.c z.b⟩
instance i_lcNil : Stp (lcGo pt vs wt we ρ Q [] acc) (Q (.fr acc)) := ⟨fun q => q⟩
instance i_lcCons : Stp (lcGo pt vs wt we ρ Q (d :: ds) acc) (pt.bind d (wipeR ρ vs) fun ρ2 => wt ρ2 (fun b => if b = true then we ρ2 (lcK2 pt vs wt we ρ Q ds acc) (fun _ => False) else lcGo pt vs wt we ρ Q ds acc) (fun _ => False)) := ⟨fun q => q⟩
instance i_lcK2 [c : Cn x d] : Stp (lcK2 pt vs wt we ρ Q ds acc x) (Sd (acc.length < big) (lcGo pt vs wt we ρ Q ds (acc ++ [d]))) := ⟨fun q => by unfold lcK2 W.clnK; rw [c.eq]; exact ⟨q.c, q.b⟩⟩
instance i_forNil : Stp (forGo pt w ⟨nx, rt, bk, ct, ex⟩ [] ρ) (nx ρ) := ⟨fun q => q⟩
instance i_forCons : Stp (forGo pt w ⟨nx, rt, bk, ct, ex⟩ (d :: ds) ρ) (pt.bind d ρ fun ρ2 => w ρ2 ⟨forGo pt w ⟨nx, rt, bk, ct, ex⟩ ds, rt, nx, forGo pt w ⟨nx, rt, bk, ct, ex⟩ ds, ex⟩) := ⟨fun q => q⟩
/-- a written list grown at its end -/
instance (priority := high) i_lcK2n [c : Cn x d] : Stp (lcK2 pt vs wt we ρ Q ds [] x) (lcGo pt vs wt we ρ Q ds [d]) := ⟨fun q => by unfold lcK2 W.clnK; rw [c.eq]; exact ⟨by decide, q⟩⟩
class Sn (ds : List D) (d : D) (es : outParam (List D)) : Prop where
  eq : ds ++ [d] = es
instance sn_n : Sn [] d [d] := ⟨rfl⟩
instance sn_c {e : D} {es : List D} [h : Sn ds d es] : Sn (e :: ds) d (e :: es) := ⟨by rw [List.cons_append, h.eq]⟩
instance (priority := high) i_lcK2s {a : D} {es : List D} [c : Cn x d] [s : Sn acc d es] : Stp (lcK2 pt vs wt we ρ Q ds (a :: acc) x) (Sd ((a :: acc).length < big) (lcGo pt vs wt we ρ Q ds (a :: es))) := ⟨fun q => by unfold lcK2 W.clnK; rw [c.eq]; refine ⟨q.c, ?_⟩; rw [List.cons_append, s.eq]; exact q.b⟩
end
instance in_rep {k : Nat} {i : Int} : In (List.replicate k [PyData.int i]).flatten (List.replicate k i) := ⟨by
  induction k with
  | zero => rfl
  | succ k ih => rw [List.replicate_succ, List.replicate_succ, List.flatten_cons, List.map_cons, ih]; rfl⟩
instance in_app {ds es : List D} {l m : List Int} [a : In ds l] [b : In es m] : In (ds ++ es) (l ++ m) := ⟨by rw [a.eq, b.eq, List.map_append]⟩
instance in_rev {ds : List D} {l : List Int} [a : In ds l] : In ds.reverse l.reverse := ⟨by rw [a.eq, List.map_reverse]⟩
/-! ### 39. slices by their forms -/
class Tkn (ds : List D) (m : Nat) (es : outParam (List D)) : Prop where
  eq : ds.take m = es
class Drn (ds : List D) (m : Nat) (es : outParam (List D)) : Prop where
  eq : ds.drop m = es
class Dln (ds : List D) (es : outParam (List D)) : Prop where
  eq : ds.dropLast = es
section
variable {ds es fs : List D} {n m : Nat} {f : Nat → Int} {Q : W → Prop} {x : W} {i j : Int}
instance (priority := low) tk_any : Tkn ds m (ds.take m) := ⟨rfl⟩
instance tk_tab : Tkn (tab f n) m (tab f (min m n)) := ⟨tab_take⟩
instance tk_map {α : Type} {l : List α} {g : α → D} : Tkn (l.map g) m ((l.take m).map g) := ⟨List.map_take.symm⟩
instance (priority := low) dr_any : Drn ds m (ds.drop m) := ⟨rfl⟩
instance dr_tab : Drn (tab f n) m (tab (fun i => f (i + m)) (n - m)) := ⟨tab_drop⟩
instance dr_map {α : Type} {l : List α} {g : α → D} : Drn (l.map g) m ((l.drop m).map g) := ⟨List.map_drop.symm⟩
instance (priority := low) dl_any : Dln ds ds.dropLast := ⟨rfl⟩
instance dl_tab : Dln (tab f n) (tab f (n - 1)) := ⟨by rw [List.dropLast_eq_take, tab_take, tab_len, Nat.min_eq_left (Nat.sub_le ..)]⟩
instance dl_map {α : Type} {l : List α} {g : α → D} : Dln (l.map g) (l.dropLast.map g) := ⟨by rw [List.dropLast_eq_take, List.dropLast_eq_take, List.map_take, List.length_map]⟩
instance i_slTL [c : Ls x ds] [t : Tkn ds j.toNat es] : Stp (slK Q x none (some j)) (Sd (0 ≤ j) (Q (.fr es))) := ⟨fun q => slK_l c.eq (by rw [cutD_upto q.c, t.eq]; exact q.b)⟩
instance i_slTT [t : Tkn ds j.toNat es] : Stp (slK Q (.d (.tuple ds)) none (some j)) (Sd (0 ≤ j) (Q (.d (.tuple es)))) := ⟨fun q => by show Q (.d (.tuple (cutD ds none (some j)))); rw [cutD_upto q.c, t.eq]; exact q.b⟩
instance i_slDL [c : Ls x ds] [t : Drn ds i.toNat es] : Stp (slK Q x (some i) none) (Sd (0 ≤ i) (Q (.fr es))) := ⟨fun q => slK_l c.eq (by rw [cutD_from q.c, t.eq]; exact q.b)⟩
instance i_slDT [t : Drn ds i.toNat es] : Stp (slK Q (.d (.tuple ds)) (some i) none) (Sd (0 ≤ i) (Q (.d (.tuple es)))) := ⟨fun q => by show Q (.d (.tuple (cutD ds (some i) none))); rw [cutD_from q.c, t.eq]; exact q.b⟩
instance i_slML [c : Ls x ds] [t : Tkn ds j.toNat es] [u : Drn es i.toNat fs] : Stp (slK Q x (some i) (some j)) (Sd (0 ≤ i ∧ 0 ≤ j) (Q (.fr fs))) := ⟨fun q => slK_l c.eq (by rw [cutD_mid q.c.1 q.c.2, t.eq, u.eq]; exact q.b)⟩
instance i_slMT [t : Tkn ds j.toNat es] [u : Drn es i.toNat fs] : Stp (slK Q (.d (.tuple ds)) (some i) (some j)) (Sd (0 ≤ i ∧ 0 ≤ j) (Q (.d (.tuple fs)))) := ⟨fun q => by show Q (.d (.tuple (cutD ds (some i) (some j)))); rw [cutD_mid q.c.1 q.c.2, t.eq, u.eq]; exact q.b⟩
instance i_slBL [c : Ls x ds] [t : Dln ds es] : Stp (slK Q x none (some (-1))) (Q (.fr es)) := ⟨fun q => slK_l c.eq (by rw [cutD_butlast, t.eq]; exact q)⟩
instance i_slBT [t : Dln ds es] : Stp (slK Q (.d (.tuple ds)) none (some (-1))) (Q (.d (.tuple es))) := ⟨fun q => by show Q (.d (.tuple (cutD ds none (some (-1))))); rw [cutD_butlast, t.eq]; exact q⟩
instance i_slIL [c : Ls x ds] [t : Dln ds es] [u : Drn es i.toNat fs] : Stp (slK Q x (some i) (some (-1))) (Sd (0 ≤ i) (Q (.fr fs))) := ⟨fun q => slK_l c.eq (by rw [cutD_inner q.c, t.eq, u.eq]; exact q.b)⟩
instance i_slIT [t : Dln ds es] [u : Drn es i.toNat fs] : Stp (slK Q (.d (.tuple ds)) (some i) (some (-1))) (Sd (0 ≤ i) (Q (.d (.tuple fs)))) := ⟨fun q => by show Q (.d (.tuple (cutD ds (some i) (some (-1))))); rw [cutD_inner q.c, t.eq, u.eq]; exact q.b⟩
instance i_slAL [c : Ls x ds] : Stp (slK Q x none none) (Q (.fr ds)) := ⟨fun q => slK_l c.eq (by rw [cutD_all]; exact q)⟩
end
theorem reprOk_of {d : D} {w : Nat} (h : Rk d w 20) (hw : w ≤ 15999000) : reprOk d := ⟨w, h, hw⟩
/-! ### 40. reprOk in three parts -/
theorem reprOk_by {d : D} (h1 : rok d = true) (h2 : Nd 20 d) (h3 : shx d ≤ 15999000) : reprOk d := ⟨_, ⟨h1, h2, Nat.le_refl _⟩, h3⟩
section
variable {d : D} {ds es : List D} {i : Int} {f : Nat → Int} {n m : Nat} {l : List Int} {ps : List (Int × Int)} {x : Str} {b : Bool}
theorem rok_t (h : roks ds = true) : rok (.tuple ds) = true := by simpa only [rok] using h
theorem rok_l (h : roks ds = true) : rok (.list ds) = true := by simpa only [rok] using h
theorem rok_i (h : Bd i 14000) : rok (.int i) = true := (rk_int (m := 0) h).ok
theorem rok_n : rok .none = true := rfl
theorem rok_b : rok (.bool b) = true := rfl
theorem roks_n : roks [] = true := rfl
theorem roks_c (h : rok d = true) (h2 : roks ds = true) : roks (d :: ds) = true := by simp only [roks, h, h2, Bool.and_self]
theorem roks_tab (h : ∀ i < n, Bd (f i) 14000) : roks (tab f n) = true := (rks_tab (m := 0) h).ok
theorem roks_ints (h : ∀ a ∈ l, Bd a 14000) : roks (l.map PyData.int) = true := (rks_ints (m := 0) h).ok
theorem roks_prs (h : ∀ p ∈ ps, Bd p.1 14000 ∧ Bd p.2 14000) : roks (ps.map prD) = true := (rks_prs (m := 0) h).ok
theorem roks_app (h : roks ds = true) (h2 : roks es = true) : roks (ds ++ es) = true := by
  induction ds with
  | nil => exact h2
  | cons d ds ih =>
    simp only [roks, Bool.and_eq_true] at h
    simp only [List.cons_append, roks, h.1, ih h.2, Bool.and_self]
theorem roks_all {α : Type} {l : List α} {g : α → D} (h : ∀ a ∈ l, rok (g a) = true) : roks (l.map g) = true := by
  induction l with
  | nil => rfl
  | cons a l ih => exact roks_c (h a List.mem_cons_self) (ih fun y hy => h y (List.mem_cons_of_mem _ hy))
@[simp] theorem shxs_app : shxs (ds ++ es) = shxs ds + shxs es := by
  induction ds with
  | nil => simp
  | cons d ds ih => simp only [List.cons_append, shxs, ih]; omega
theorem shxs_le {α : Type} {g : α → D} {w : Nat} : ∀ {l : List α}, (∀ a ∈ l, shx (g a) ≤ w) → shxs (l.map g) ≤ (w + 2) * l.length
  | [], _ => by simp
  | a :: l, h => by
    have h1 := h a List.mem_cons_self
    have h2 := shxs_le (l := l) fun y hy => h y (List.mem_cons_of_mem _ hy)
    simp only [List.map_cons, shxs, List.length_cons, Nat.mul_succ]; omega
@[simp] theorem shxs_ints : shxs (l.map PyData.int) = 4312 * l.length := by
  induction l with
  | nil => rfl
  | cons a l ih => simp only [List.map_cons, shxs, shx, ih, List.length_cons, Nat.mul_succ]; omega
@[simp] theorem shxs_tab : shxs (tab f n) = 4312 * n := by rw [tab_ints, shxs_ints]; simp
@[simp] theorem shxs_prs : shxs (ps.map prD) = 8629 * ps.length := by
  induction ps with
  | nil => rfl
  | cons a l ih => simp only [List.map_cons, shxs, shx, ih, List.length_cons, Nat.mul_succ]; omega
@[simp] theorem nd_tab : (∀ d ∈ tab f n, Nd m d) ↔ True := ⟨fun _ => trivial, fun _ d hd => by obtain ⟨i, _, rfl⟩ := tab_mem hd; cases m <;> trivial⟩
@[simp] theorem nd_ints : (∀ d ∈ l.map PyData.int, Nd m d) ↔ True := ⟨fun _ => trivial, fun _ d hd => by obtain ⟨i, _, rfl⟩ := List.mem_map.mp hd; cases m <;> trivial⟩
@[simp] theorem nd_prs : (∀ d ∈ ps.map prD, Nd (m + 1) d) ↔ True := ⟨fun _ => trivial, fun _ d hd => by
  obtain ⟨i, _, rfl⟩ := List.mem_map.mp hd
  intro y hy
  simp at hy
  rcases hy with rfl | rfl <;> (cases m <;> trivial)⟩
theorem nd_i : Nd m (.int i) := by cases m <;> trivial
theorem nd_b : Nd m (.bool b) := by cases m <;> trivial
theorem nd_n : Nd m .none := by cases m <;> trivial
theorem nd_s : Nd m (.str x) := by cases m <;> trivial
theorem nd_t (h : ∀ d ∈ ds, Nd m d) : Nd (m + 1) (.tuple ds) := h
theorem nd_l (h : ∀ d ∈ ds, Nd m d) : Nd (m + 1) (.list ds) := h
theorem nds_n : ∀ d ∈ ([] : List D), Nd m d := fun _ h => nomatch h
theorem nds_c (h : Nd m d) (h2 : ∀ d ∈ ds, Nd m d) : ∀ y ∈ d :: ds, Nd m y := fun y hy => (List.mem_cons.mp hy).elim (fun e => e ▸ h) (h2 y)
theorem nds_tab : ∀ d ∈ tab f n, Nd m d := nd_tab.mpr trivial
theorem nds_ints : ∀ d ∈ l.map PyData.int, Nd m d := nd_ints.mpr trivial
theorem nds_prs : ∀ d ∈ ps.map prD, Nd (m + 1) d := nd_prs.mpr trivial
theorem nds_map {α : Type} {l : List α} {g : α → D} (h : ∀ a, Nd m (g a)) : ∀ d ∈ l.map g, Nd m d := fun d hd => by obtain ⟨a, _, rfl⟩ := List.mem_map.mp hd; exact h a
theorem nds_app (h : ∀ d ∈ ds, Nd m d) (h2 : ∀ d ∈ es, Nd m d) : ∀ d ∈ ds ++ es, Nd m d := fun d hd => (List.mem_append.mp hd).elim (h d) (h2 d)
end
end R
namespace R
open PySem PySem.Spec PyProof.Rows L2
set_option autoImplicit false
/-! ### 50. xs.pop() of an own list -/
section
variable {X : Cx} {ec : Str → Addr} {pos : Pos}
def wPop (i : Nat) : WS := fun ρ O => owK ρ i fun ds => ds ≠ [] ∧ O.nx (ρ.set i (some (.ow ds.dropLast)))
theorem s_pop {i : Nat} {cl : Expr} (pb : PE X cl (tBM0 X.K "list" rPop (tVar i))) (hs : swapsWith cl none pos.line X.env = pure false := by rfl) : SimS X ec (.Expr cl pos) (wPop i) := by
  refine ⟨fun G σ H ρ O D hK s t en h => psu (ps_expr pb hs) ?_⟩
  obtain ⟨ds, e0, ne, q⟩ := owK_get h
  obtain ⟨p, vs, h1, h2, h3, h4, h5, h6⟩ := s.ow i ds e0
  refine ⟨.ref p, h1, .inl ⟨rfl, vs, SqL.of h2⟩, ?_⟩
  have len := h3.length
  have pos : 0 < vs.length := by
    rw [len]
    exact List.length_pos_iff.mpr ne
  exact ⟨p, vs, vs[vs.length - 1]'(by omega), rfl, rfl, h2, List.getElem?_eq_getElem (by omega), en.nx _ _ _ (s.put e0 h1 h3.dropLast) (Go.put e0 h1) q⟩
theorem s_popL (i : Nat) {x : Str} {p p2 p3 : Pos} (hN : X.N[i]? = some x := by rfl) (hv : Vis X.env.scope x := by first | exact Or.inl rfl | exact Or.inr (Or.inl rfl)) (hd : (x == ("__debug__" : Str)) = false := by decide) (hcd : (x == ("__classdict__" : Str)) = false := by decide)
    (hbase : attributeBase (.Name x p) "pop" X.env (eval (.Name x p) X.env) = eval (.Name x p) X.env := by rfl)
    (hline : (p2.endLine == p3.line) = true := by rfl) (hsw : swapsWith (.Call (.Attribute (.Name x p) "pop" p2) [] [] p3) none pos.line X.env = pure false := by rfl) :
    SimS X ec (.Expr (.Call (.Attribute (.Name x p) "pop" p2) [] [] p3) pos) (wPop i) :=
  s_pop (pe_bm0 PySem.F.plainAttrs_list PySem.F.slot_list_pop PySem.F.type_list_pop mt_pop (pe_var hN hv hd hcd) hbase hline) hsw
end
section
variable {ρ ρ' : Rho} {n : Nat} {ds es : List D} {nx ct bk : Rho → Prop} {rt : W → Prop} {ex : Str → Rho → Prop}
instance i_pop [h : Lk ρ n (some (.ow ds))] [d : Dln ds es] [u : Su ρ n (some (.ow es)) ρ'] : Stp (wPop n ρ ⟨nx, rt, bk, ct, ex⟩) (Sd (ds ≠ []) (nx ρ')) := ⟨fun q => by
  unfold wPop owK
  rw [h.eq]
  exact ⟨q.c, by rw [d.eq, u.eq]; exact q.b⟩⟩
end
/-! ### 51. sum of a list or a tuple of ints -/
section
variable {P : Program} {w : World} {A : Around} {E : Value → Shared → Prop} {s : Shared} {l : Addr} {its : List Value} {ns : List Int} {Q : Value → Shared → Prop}
theorem sum_tup (hh : A.handled = none) (hl : s.heap.IsTuple l its.toArray) (hi : IntsAre its ns)
    (h : ∀ h' tk t', (∀ b o, s.heap.get? b = some o → h'.get? b = some o) → Q (.int ns.sum t') { s with heap := h', toks := tk }) : wpAny (model P w) A (call (.builtin "sum") [.ref l]) Q E s := by
  obtain ⟨xs, e⟩ := hi.allInts.items
  have hn : numsOf (intItems xs).toList = ns := by rw [← e]; exact hi.numsOf
  rw [nums_intItems] at hn
  rw [e] at hl
  have hlt : l < s.heap.objs.size := let ⟨o, ho, _⟩ := hl; Heap.lt_size ho
  refine call_sum_walkG (wpAny_pyIter_tuple hl ?_)
  refine ⟨_, [_, l], [_], _, _, _, numAt xs, rfl, Walks.tuple (A := A.in1) hh _ l (Nat.ne_of_lt hlt) (intItems xs), ⟨⟨_, Heap.get?_push_size _ rfl, rfl, rfl⟩, hl.push _⟩, fun c hc => ?_, (fun _ _ => intItems_at), fun h' tk t' hk => ?_⟩
  · show c < (s.heap.push _).objs.size
    rw [Heap.size_push]
    rcases List.mem_cons.mp hc with rfl | hc
    · exact Nat.lt_succ_self _
    · rcases List.mem_cons.mp hc with rfl | hc
      · exact Nat.lt_succ_of_lt hlt
      · cases hc
  · have hold : ∀ c o, s.heap.get? c = some o → h'.get? c = some o := fun c o q => by
      refine hk c o (fun hm => ?_) (Heap.get?_push_of_some _ q)
      rcases List.mem_cons.mp hm with e1 | hm
      · have := Heap.lt_size q
        rw [e1] at this
        exact Nat.lt_irrefl _ this
      · cases hm
    have r := h h' tk t' hold
    rw [← hn] at r
    have z : (intItems xs).size = xs.size := by simp [intItems]
    rw [z, preSum_eq, List.take_of_length_le (by simp)]
    exact r
end
section
variable {X : Cx}
def rSumA (K : PySem.W.Frag) : List V → Hp → VK → Prop := fun vs H Q => ∃ (a : Addr) (ns : List Int), vs = [V.ref a] ∧ (SqL K H a (ns.map V.int) ∨ SqT K H a (ns.map V.int)) ∧ Q (.int ns.sum) H
theorem cr_sumA (hc : X.calm = true) : CallR X (.builtin "sum") (rSumA X.K) := by
  intro pins s σ H vs us Q I r h
  obtain ⟨a, ns, rfl, hs, q⟩ := h
  rcases hs with hs | hs
  · exact cr_sum hc pins s σ H _ us Q I r ⟨a, ns, rfl, hs, q⟩
  · obtain ⟨its, rv, hl, _⟩ := I.tuple hs
    rw [Vals.ref1 r]
    obtain ⟨o, h1, h2, n, h3⟩ := hl
    exact sum_tup (I.ok.hd hc) ⟨o, h1, h2, n, h3⟩ rv.ints fun h' tk t' hk => ⟨.int _, H, I.kept hk, ⟨_, rfl⟩, q⟩
def bSumA (xs : List W) (Q : W → Prop) : Prop := match xs with
  | [x] => (match x.dat with
    | some (.list ds) => (∀ d ∈ ds, isI d) ∧ Q (.d (.int (ds.map asI).sum))
    | some (.tuple ds) => (∀ d ∈ ds, isI d) ∧ Q (.d (.int (ds.map asI).sum))
    | _ => False)
  | _ => False
theorem c_sumA : SimC X (rSumA X.K) bSumA := by
  intro G ρ σ H Ha vs xs Q Q' hK s r h k
  unfold bSumA at h
  split at h
  · obtain ⟨v, rfl, rx⟩ := r.one
    split at h
    · rename_i ds e
      obtain ⟨p, vs, rfl, hp, r⟩ := rx.lst e
      rw [all_isI h.1] at r
      have e2 := r.intsV
      subst e2
      exact ⟨p, _, rfl, .inl (SqL.of hp), k _ H (.d (.int _)) Ext.refl (Rp.int _) h.2⟩
    · rename_i ds e
      obtain ⟨p, vs, rfl, hp, r⟩ := rx.tup e
      rw [all_isI h.1] at r
      have e2 := r.intsV
      subst e2
      exact ⟨p, _, rfl, .inr (hK ▸ hp), k _ H (.d (.int _)) Ext.refl (Rp.int _) h.2⟩
    · exact h.elim
  · exact h.elim
end
section
variable {Q : W → Prop} {x : W} {ds : List D} {f : Nat → Int} {n : Nat} {l : List Int}
theorem bSumA_l (hx : x.dat = some (.list ds)) (h : ∀ d ∈ ds, isI d) (q : Q (.d (.int (ds.map asI).sum))) : bSumA [x] Q := by unfold bSumA; simp only [hx]; exact ⟨h, q⟩
instance i_sumAL [c : Ls x ds] : Stp (bSumA [x] Q) (Sd (∀ d ∈ ds, isI d) (Q (.d (.int (ds.map asI).sum)))) := ⟨fun q => bSumA_l c.eq q.c q.b⟩
instance i_sumAT : Stp (bSumA [.d (.tuple ds)] Q) (Sd (∀ d ∈ ds, isI d) (Q (.d (.int (ds.map asI).sum)))) := ⟨fun q => ⟨q.c, q.b⟩⟩
end
end R
namespace R
open PySem PySem.Spec PyProof.Rows L2
set_option autoImplicit false
/-! ### the rows of two told numbers: specs -/
@[simp] abbrev small (i : Int) : Prop := -(2 ^ 64) < i ∧ i < 2 ^ 64
@[simp] abbrev okB (p q : Int) : Prop := -100 ≤ p ∧ p ≤ 100 ∧ -100 ≤ q ∧ q ≤ 100
/-- the row: a, b, then p times the last less q times the one before -/
def lu (p q a b : Int) : Nat → Int
  | 0 => a
  | 1 => b
  | n + 2 => p * lu p q a b (n + 1) - q * lu p q a b n
abbrev rowD (p q a b : Int) (n : Nat) : List D := tab (lu p q a b) n
theorem rowD_len {p q a b : Int} {n : Nat} : (rowD p q a b n).length = n := tab_len
theorem rowD_succ {p q a b : Int} {n : Nat} : rowD p q a b (n + 1) = rowD p q a b n ++ [.int (lu p q a b n)] := tab_succ
theorem rowD_at {p q a b : Int} {n i : Nat} (h : i < n) : (rowD p q a b n)[i]? = some (.int (lu p q a b i)) := tab_at h
theorem rowD_take {p q a b : Int} {n m : Nat} : (rowD p q a b n).take m = rowD p q a b (min m n) := tab_take
theorem cutD_take {ds : List D} {m : Int} (h : 0 ≤ m) : cutD ds none (some m) = ds.take m.toNat := cutD_upto h
theorem rowD_ints {p q a b : Int} {n : Nat} {d : D} (h : d ∈ rowD p q a b n) : ∃ i, i < n ∧ d = .int (lu p q a b i) := by
  unfold rowD at h
  obtain ⟨i, hi, e⟩ := List.mem_map.mp h
  exact ⟨i, by simpa using hi, e.symm⟩
theorem lu_le {p q : Int} (hp : p.natAbs ≤ 100) (hq : q.natAbs ≤ 100) : ∀ n, (lu p q 0 1 n).natAbs ≤ 101 ^ n ∧ (lu p q 0 1 (n + 1)).natAbs ≤ 101 ^ (n + 1)
  | 0 => by simp [lu]
  | n + 1 => by
    obtain ⟨h1, h2⟩ := lu_le hp hq n
    refine ⟨h2, ?_⟩
    show (p * lu p q 0 1 (n + 1) - q * lu p q 0 1 n).natAbs ≤ _
    have e1 : (p * lu p q 0 1 (n + 1)).natAbs ≤ 100 * 101 ^ (n + 1) := by rw [Int.natAbs_mul]; exact Nat.mul_le_mul hp h2
    have e2 : (q * lu p q 0 1 n).natAbs ≤ 100 * 101 ^ n := by rw [Int.natAbs_mul]; exact Nat.mul_le_mul hq h1
    have e3 : 101 ^ (n + 1 + 1) = 101 * (101 * 101 ^ n) := by rw [Nat.pow_succ, Nat.pow_succ]; omega
    have e4 : 101 ^ (n + 1) = 101 * 101 ^ n := by rw [Nat.pow_succ]; omega
    omega
theorem lu_bd {p q : Int} (h : okB p q) (n : Nat) : Bd (lu p q 0 1 n) (7 * n + 1) := by
  obtain ⟨h1, h2, h3, h4⟩ := h
  have := (lu_le (p := p) (q := q) (by omega) (by omega) n).1
  unfold Bd
  have e : 101 ^ n ≤ 2 ^ (7 * n) := by rw [Nat.pow_mul]; exact Nat.pow_le_pow_left (by decide) n
  have e2 : 2 ^ (7 * n + 1) = 2 ^ (7 * n) * 2 := Nat.pow_succ ..
  have : 0 < 2 ^ (7 * n) := Nat.two_pow_pos _
  omega
theorem lu_bd100 {p q : Int} (h : okB p q) {n : Nat} (hn : n ≤ 101) : Bd (lu p q 0 1 n) 710 := (lu_bd h n).mono (by omega)
theorem lu_bd200 {p q : Int} (h : okB p q) {n : Nat} (hn : n ≤ 202) : Bd (lu p q 0 1 n) 1420 := (lu_bd h n).mono (by omega)
theorem lu_bd400 {p q : Int} (h : okB p q) {n : Nat} (hn : n ≤ 1000) : Bd (lu p q 0 1 n) 7010 := (lu_bd h n).mono (by omega)
theorem okB.bp {p q : Int} (h : okB p q) : Bd p 7 := bd_of (by obtain ⟨h1, h2, h3, h4⟩ := h; omega)
theorem okB.bq {p q : Int} (h : okB p q) : Bd q 7 := bd_of (by obtain ⟨h1, h2, h3, h4⟩ := h; omega)
theorem Bd.pow {i : Int} {k : Nat} (h : Bd i k) : ∀ n : Nat, Bd (i ^ n) (k * n + 1)
  | 0 => by rw [Int.pow_zero]; exact bd_of (by simp)
  | n + 1 => by
    rw [Int.pow_succ]
    exact ((Bd.pow h n).mul h).mono (by rw [Nat.mul_succ]; omega)
theorem okB.bpow {p q : Int} (h : okB p q) {n : Nat} (hn : n ≤ 200) : Bd (q ^ n) 1401 := (Bd.pow h.bq n).mono (by omega)
theorem okB.s {p q : Int} (h : okB p q) : small p ∧ small q := by
  obtain ⟨h5, h6, h7, h8⟩ := h
  unfold small
  omega
/-- terms apart -/
theorem lu_apart (p q a b : Int) : ∀ (s n : Nat), (lu p q a b (n + 2 * s) = lu p q 2 p s * lu p q a b (n + s) - q ^ s * lu p q a b n) ∧ (lu p q a b (n + 2 * (s + 1)) = lu p q 2 p (s + 1) * lu p q a b (n + (s + 1)) - q ^ (s + 1) * lu p q a b n)
  | 0, n => by
    constructor
    · simp [lu]; omega
    · simp [lu, Int.pow_succ]
  | s + 1, n => by
    refine ⟨(lu_apart p q a b s n).2, ?_⟩
    have h1 := (lu_apart p q a b s (n + 1)).2
    have h2 := (lu_apart p q a b s (n + 2)).1
    have e1 : lu p q 2 p (s + 2) = p * lu p q 2 p (s + 1) - q * lu p q 2 p s := rfl
    have e2 : lu p q a b (n + 2) = p * lu p q a b (n + 1) - q * lu p q a b n := rfl
    have e3 : lu p q a b (n + 2 * (s + 2)) = p * lu p q a b (n + 1 + 2 * (s + 1)) - q * lu p q a b (n + 2 + 2 * s) := by
      have i1 : n + 2 * (s + 2) = (n + 2 * s + 2) + 2 := by omega
      have i2 : n + 1 + 2 * (s + 1) = n + 2 * s + 2 + 1 := by omega
      have i3 : n + 2 + 2 * s = n + 2 * s + 2 := by omega
      rw [i1, i2, i3]
      rfl
    have i4 : n + 1 + (s + 1) = n + (s + 2) := by omega
    have i5 : n + 2 + s = n + (s + 2) := by omega
    rw [i4] at h1
    rw [i5] at h2
    show lu p q a b (n + 2 * (s + 2)) = lu p q 2 p (s + 2) * lu p q a b (n + (s + 2)) - q ^ (s + 1 + 1) * lu p q a b n
    have p1 : q ^ (s + 1 + 1) = q * (q * q ^ s) := by rw [Int.pow_succ, Int.pow_succ]; grind
    have p2 : q ^ (s + 1) = q * q ^ s := by rw [Int.pow_succ]; grind
    rw [e3, h1, h2, e1, p1, p2, e2]
    have ring : ∀ (P Q V1 V0 X Y Z T : Int), P * (V1 * X - Q * T * Y) - Q * (V0 * X - T * (P * Y - Q * Z)) = (P * V1 - Q * V0) * X - Q * (Q * T) * Z := by intros; grind
    exact ring _ _ _ _ _ _ _ _
/-- the sum of two places -/
theorem lu_sum (p q a b : Int) (m : Nat) : ∀ n, lu p q a b (m + n + 1) = lu p q 0 1 (n + 1) * lu p q a b (m + 1) - q * lu p q 0 1 n * lu p q a b m ∧ lu p q a b (m + n + 2) = lu p q 0 1 (n + 2) * lu p q a b (m + 1) - q * lu p q 0 1 (n + 1) * lu p q a b m
  | 0 => by
    constructor
    · simp [lu]
    · simp [lu]
  | n + 1 => by
    obtain ⟨h1, h2⟩ := lu_sum p q a b m n
    refine ⟨h2, ?_⟩
    have e : lu p q a b (m + (n + 1) + 2) = p * lu p q a b (m + n + 2) - q * lu p q a b (m + n + 1) := rfl
    have e2 : lu p q 0 1 (n + 1 + 2) = p * lu p q 0 1 (n + 2) - q * lu p q 0 1 (n + 1) := rfl
    have e3 : lu p q 0 1 (n + 2) = p * lu p q 0 1 (n + 1) - q * lu p q 0 1 n := rfl
    rw [e, h1, h2, e2]
    show p * (lu p q 0 1 (n + 2) * lu p q a b (m + 1) - q * lu p q 0 1 (n + 1) * lu p q a b m) - q * (lu p q 0 1 (n + 1) * lu p q a b (m + 1) - q * lu p q 0 1 n * lu p q a b m) = (p * lu p q 0 1 (n + 2) - q * lu p q 0 1 (n + 1)) * lu p q a b (m + 1) - q * lu p q 0 1 (n + 2) * lu p q a b m
    rw [e3]
    have ring : ∀ P Q A B X Y : Int, P * ((P * B - Q * A) * Y - Q * B * X) - Q * (B * Y - Q * A * X) = (P * (P * B - Q * A) - Q * B) * Y - Q * (P * B - Q * A) * X := by intros; grind
    exact ring _ _ _ _ _ _
theorem lu_E (p q : Int) : ∀ m, lu p q 0 1 (m + 1) * lu p q 0 1 (m + 1) - p * lu p q 0 1 m * lu p q 0 1 (m + 1) + q * (lu p q 0 1 m * lu p q 0 1 m) = q ^ m
  | 0 => by simp [lu]
  | m + 1 => by
    have h := lu_E p q m
    have e : lu p q 0 1 (m + 2) = p * lu p q 0 1 (m + 1) - q * lu p q 0 1 m := rfl
    show lu p q 0 1 (m + 2) * lu p q 0 1 (m + 2) - p * lu p q 0 1 (m + 1) * lu p q 0 1 (m + 2) + q * (lu p q 0 1 (m + 1) * lu p q 0 1 (m + 1)) = q ^ (m + 1)
    rw [e, Int.pow_succ, ← h]
    have ring : ∀ P Q X Y : Int, (P * Y - Q * X) * (P * Y - Q * X) - P * Y * (P * Y - Q * X) + Q * (Y * Y) = (Y * Y - P * X * Y + Q * (X * X)) * Q := by intros; grind
    exact ring _ _ _ _
/-- Catalan's fact -/
theorem lu_catalan (p q : Int) (r m : Nat) : lu p q 0 1 (m + r) * lu p q 0 1 (m + r) - lu p q 0 1 m * lu p q 0 1 (m + 2 * r) = q ^ m * (lu p q 0 1 r * lu p q 0 1 r) := by
  cases r with
  | zero => simp [lu]
  | succ k =>
    have h1 := (lu_sum p q 0 1 m k).1
    have h2 := (lu_sum p q 0 1 m (2 * k + 1)).1
    have h3 := (lu_sum p q 0 1 (k + 1) k).1
    have h4 := (lu_sum p q 0 1 k k).1
    have i1 : m + (2 * k + 1) + 1 = m + 2 * (k + 1) := by omega
    have i3 : k + 1 + k + 1 = 2 * k + 1 + 1 := by omega
    have i4 : k + k + 1 = 2 * k + 1 := by omega
    rw [i1, ← i3, h3, ← i4, h4] at h2
    have e : lu p q 0 1 (k + 2) = p * lu p q 0 1 (k + 1) - q * lu p q 0 1 k := rfl
    rw [show m + (k + 1) = m + k + 1 from rfl, h1, h2, show k + 1 + 1 = k + 2 from rfl, e, ← lu_E p q m]
    have ring : ∀ P Q A B X Y : Int, (B * Y - Q * A * X) * (B * Y - Q * A * X) - X * ((B * (P * B - Q * A) - Q * A * B) * Y - Q * (B * B - Q * A * A) * X) = (Y * Y - P * X * Y + Q * (X * X)) * (B * B) := by intros; grind
    exact ring _ _ _ _ _ _
theorem eqv_same {d : D} (h : Shp 60 d) : PyData.eqv d d = true := eqv_eq h rfl
theorem shp_ti {α : Type} {l : List α} {f : α → Int} : Shp 60 (.tuple (l.map fun i => .int (f i))) := fun x h => by
  obtain ⟨i, _, rfl⟩ := List.mem_map.mp h
  trivial
theorem shp_li {α : Type} {l : List α} {f : α → Int} : Shp 60 (.list (l.map fun i => .int (f i))) := fun x h => by
  obtain ⟨i, _, rfl⟩ := List.mem_map.mp h
  trivial
/-- d'Ocagne's fact -/
theorem lu_docagne (p q : Int) (k : Nat) : ∀ n, lu p q 0 1 (n + k) * lu p q 0 1 (n + 1) - lu p q 0 1 (n + k + 1) * lu p q 0 1 n = q ^ n * lu p q 0 1 k
  | 0 => by simp [lu]
  | n + 1 => by
    have h := lu_docagne p q k n
    have e1 : lu p q 0 1 (n + 2) = p * lu p q 0 1 (n + 1) - q * lu p q 0 1 n := rfl
    have e2 : lu p q 0 1 (n + k + 2) = p * lu p q 0 1 (n + k + 1) - q * lu p q 0 1 (n + k) := rfl
    rw [show n + 1 + k = n + k + 1 by omega, show n + 1 + 1 = n + 2 from rfl, e1, e2, Int.pow_succ]
    have ring : ∀ P Q A B C D T U : Int, A * B - C * D = T * U → C * (P * B - Q * D) - (P * C - Q * A) * B = T * Q * U := by intros; grind
    exact ring _ _ _ _ _ _ _ _ h
/-- an integer that is no bool -/
@[simp] def tI : D → Bool
  | .int _ => true
  | _ => false
@[simp] def tW (l h : Int) : D → Bool
  | .int a => decide (l ≤ a) && decide (a ≤ h)
  | _ => false
def tB : D → Bool
  | .tuple [x, y] => tW (-100) 100 x && tW (-100) 100 y
  | _ => false
theorem tB_ok {p q : Int} (h : okB p q) : tB (.tuple [.int p, .int q]) = true := by
  obtain ⟨h1, h2, h3, h4⟩ := h
  simp [tB, h1, h2, h3, h4]
theorem tB_get {d : D} (h : tB d = true) : ∃ p q, d = .tuple [.int p, .int q] ∧ okB p q := by
  unfold tB at h
  split at h
  · rename_i x y
    rw [Bool.and_eq_true] at h
    cases x <;> simp at h
    cases y <;> simp at h
    exact ⟨_, _, rfl, h.1.1, h.1.2, h.2.1, h.2.2⟩
  · cases h
@[simp] def nd2 : D → Bool
  | .tuple ts => ts.all noDict
  | .dict _ => false
  | _ => true
@[simp] def S_is_integer : Prom where
  n := 1
  pre := fun xs => match xs with
    | [.d t] => noDict t = true
    | _ => False
  post := fun xs z => match xs with
    | [.d t] => z = .d (.bool (tI t))
    | _ => False
@[simp] def S_is_within : Prom where
  n := 3
  pre := fun xs => match xs with
    | [.d t, .d (.int l), .d (.int h)] => noDict t = true
    | _ => False
  post := fun xs z => match xs with
    | [.d t, .d (.int l), .d (.int h)] => z = .d (.bool (tW l h t))
    | _ => False
@[simp] def S_is_base : Prom where
  n := 1
  pre := fun xs => match xs with
    | [.d t] => nd2 t = true
    | _ => False
  post := fun xs z => match xs with
    | [.d t] => z = .d (.bool (tB t))
    | _ => False
@[simp] def S_check_base : Prom where
  n := 1
  pre := fun xs => match xs with
    | [.d t] => nd2 t = true
    | _ => False
  post := fun xs z => match xs with
    | [.d t] => (tB t) = true ∧ z = .d .none
    | _ => False
  exc := fun xs c => match xs with
    | [.d t] => (tB t) = false ∧ c = "NoBase"
    | _ => False
instance i_check_base {ZQ : W → Prop} {ZE : Str → Prop} {t : D} : Stp (callK S_check_base ZQ ZE [.d t]) (Sd (nd2 t = true) (Sd (tB t = true) (ZQ (.d .none)))) := ⟨fun Zq => by
  refine callK_x rfl ?_ (fun Zz Zhz => ?_) (fun Zc Zhc => ?_) (fun Zz Zhz => ?_)
  · show S_check_base.pre [.d t]; exact Zq.c
  · first | exact .inl rfl | (left; show (_ || _) = false; simp []) | (left; simp [List.any])
  · have Zhc : S_check_base.exc [.d t] Zc := Zhc
    have Zhc : (tB t) = false ∧ _ := Zhc
    have Zhq : (tB t) = true := Zq.b.c
    have Zh1 := Zhc.1
    first | (rw [Zhq] at Zh1; cases Zh1) | (simp only [Bool.not_true] at Zh1; rw [Zhq] at Zh1; cases Zh1)
  · have Zhz : S_check_base.post [.d t] Zz := Zhz
    have Zhz : (tB t) = true ∧ Zz = .d .none := Zhz
    rw [Zhz.2]
    first | exact Zq.b.b | (show ZQ _; rw [id_eq]; exact Zq.b.b) | (simp only [id_eq]; exact Zq.b.b)⟩
@[simp] def S_check_number : Prom where
  n := 3
  pre := fun xs => match xs with
    | [.d t, .d (.int l), .d (.int h)] => noDict t = true
    | _ => False
  post := fun xs z => match xs with
    | [.d t, .d (.int l), .d (.int h)] => (tW l h t) = true ∧ z = .d .none
    | _ => False
  exc := fun xs c => match xs with
    | [.d t, .d (.int l), .d (.int h)] => (tW l h t) = false ∧ c = "NoNumber"
    | _ => False
instance i_check_number {ZQ : W → Prop} {ZE : Str → Prop} {t : D} {l : Int} {h : Int} : Stp (callK S_check_number ZQ ZE [.d t, .d (.int l), .d (.int h)]) (Sd (noDict t = true) (Sd (tW l h t = true) (ZQ (.d .none)))) := ⟨fun Zq => by
  refine callK_x rfl ?_ (fun Zz Zhz => ?_) (fun Zc Zhc => ?_) (fun Zz Zhz => ?_)
  · show S_check_number.pre [.d t, .d (.int l), .d (.int h)]; exact Zq.c
  · first | exact .inl rfl | (left; show (_ || _) = false; simp []) | (left; simp [List.any])
  · have Zhc : S_check_number.exc [.d t, .d (.int l), .d (.int h)] Zc := Zhc
    have Zhc : (tW l h t) = false ∧ _ := Zhc
    have Zhq : (tW l h t) = true := Zq.b.c
    have Zh1 := Zhc.1
    first | (rw [Zhq] at Zh1; cases Zh1) | (simp only [Bool.not_true] at Zh1; rw [Zhq] at Zh1; cases Zh1)
  · have Zhz : S_check_number.post [.d t, .d (.int l), .d (.int h)] Zz := Zhz
    have Zhz : (tW l h t) = true ∧ Zz = .d .none := Zhz
    rw [Zhz.2]
    first | exact Zq.b.b | (show ZQ _; rw [id_eq]; exact Zq.b.b) | (simp only [id_eq]; exact Zq.b.b)⟩
@[simp] def S_row_by : Prom where
  n := 4
  pre := fun xs => match xs with
    | [.d (.tuple [.int p, .int q]), .d (.int a), .d (.int b), .d (.int m)] => small p ∧ small q ∧ m ≤ 100000
    | _ => False
  post := fun xs z => match xs with
    | [.d (.tuple [.int p, .int q]), .d (.int a), .d (.int b), .d (.int m)] => z = .fr (rowD p q a b (max 2 m.toNat))
    | _ => False
@[simp] def S_raw_u : Prom where
  n := 2
  pre := fun xs => match xs with
    | [.d (.tuple [.int p, .int q]), .d (.int n)] => small p ∧ small q ∧ 0 ≤ n ∧ n < 100000
    | _ => False
  post := fun xs z => match xs with
    | [.d (.tuple [.int p, .int q]), .d (.int n)] => z = .d (.int (lu p q 0 1 n.toNat))
    | _ => False
@[simp] def S_raw_v : Prom where
  n := 2
  pre := fun xs => match xs with
    | [.d (.tuple [.int p, .int q]), .d (.int n)] => small p ∧ small q ∧ 0 ≤ n ∧ n < 100000
    | _ => False
  post := fun xs z => match xs with
    | [.d (.tuple [.int p, .int q]), .d (.int n)] => z = .d (.int (lu p q 2 p n.toNat))
    | _ => False
@[simp] def S_u_row : Prom where
  n := 2
  pre := fun xs => match xs with
    | [.d (.tuple [.int p, .int q]), .d (.int n)] => okB p q ∧ 1 ≤ n ∧ n ≤ 400
    | _ => False
  post := fun xs z => match xs with
    | [.d (.tuple [.int p, .int q]), .d (.int n)] => z = .d (.tuple (rowD p q 0 1 n.toNat))
    | _ => False
@[simp] def S_u_term : Prom where
  n := 2
  pre := fun xs => match xs with
    | [.d (.tuple [.int p, .int q]), .d (.int n)] => okB p q ∧ 0 ≤ n ∧ n ≤ 400
    | _ => False
  post := fun xs z => match xs with
    | [.d (.tuple [.int p, .int q]), .d (.int n)] => z = .d (.int (lu p q 0 1 n.toNat))
    | _ => False
@[simp] def S_cassini : Prom where
  n := 2
  pre := fun xs => match xs with
    | [.d (.tuple [.int p, .int q]), .d (.int n)] => okB p q ∧ 1 ≤ n ∧ n ≤ 100
    | _ => False
  post := fun xs z => match xs with
    | [.d (.tuple [.int p, .int q]), .d (.int n)] => z = .d (.int (q ^ (n - 1).toNat))
    | _ => False
@[simp] def S_raw_power : Prom where
  n := 2
  pre := fun xs => match xs with
    | [.d (.int a), .d (.int n)] => small a ∧ -(2 ^ 62) ≤ n ∧ n < 2 ^ 62
    | _ => False
  post := fun xs z => match xs with
    | [.d (.int a), .d (.int n)] => z = .d (.int (a ^ n.toNat))
    | _ => False
@[simp] def S__law_u : Prom where
  n := 2
  pre := fun xs => match xs with
    | [.d (.tuple [.int p, .int q]), .d (.int m)] => small p ∧ small q ∧ 0 ≤ m ∧ m ≤ 100000
    | _ => False
  post := fun xs z => match xs with
    | [.d (.tuple [.int p, .int q]), .d (.int m)] => z = .fr (rowD p q 0 1 m.toNat)
    | _ => False
@[simp] def S__law_base : Prom where
  n := 1
  pre := fun xs => match xs with
    | [.bag] => True
    | _ => False
  post := fun _ z => ∃ p q : Int, z = .d (.tuple [.int p, .int q]) ∧ okB p q
section
variable {Q : W → Prop} {E : Str → Prop}
instance i_law_base : Stp (callK S__law_base Q E [.bag]) (∀ p q : Int, okB p q → Q (.d (.tuple [.int p, .int q]))) := ⟨fun q => callK_x rfl trivial (fun _ _ => .inl rfl) (fun c hc => False.elim hc) (fun z hz => by
  obtain ⟨a, b, rfl, hb⟩ := hz
  exact q a b hb)⟩
end
theorem ite_tW {l h a : Int} {A B : Prop} (p : l ≤ a ∧ a ≤ h → A) (q : ¬(l ≤ a ∧ a ≤ h) → B) : if tW l h (.int a) = true then A else B := by
  by_cases z : l ≤ a ∧ a ≤ h
  · rw [if_pos (by simp [z])]; exact p z
  · rw [if_neg (by simp; omega)]; exact q z
theorem ite_ntW {l h a : Int} {A B : Prop} (p : ¬(l ≤ a ∧ a ≤ h) → A) (q : l ≤ a ∧ a ≤ h → B) : if (!tW l h (.int a)) = true then A else B := by
  by_cases z : l ≤ a ∧ a ≤ h
  · rw [if_neg (by simp [z])]; exact q z
  · rw [if_pos (by simp; omega)]; exact p z
local macro_rules | `(tactic| walk_at "u") => `(tactic| fail)
local macro_rules | `(tactic| walk_at "sp") => `(tactic| first | with_reducible apply R.shp_tabT | with_reducible apply R.shp_tabL | with_reducible apply R.shp_intsT | with_reducible apply R.shp_intsL | with_reducible apply R.shp_prsT | with_reducible apply R.shp_prsL | with_reducible apply R.shp_ti | with_reducible apply R.shp_li | (simp; done))
local macro_rules | `(tactic| walk_at "w1") => `(tactic| first
  | with_reducible refine R.stp ?_
  | with_reducible refine R.Sd.mk ?_ ?_
  | ((with_reducible refine R.ite_q ?_ ?_) <;> intro)
  | (with_reducible refine R.ite_nqE (by walk_at "sp") ?_ ?_)
  | (with_reducible refine R.ite_nqL ?_ ?_)
  | ((with_reducible apply R.ite_t); decide)
  | ((with_reducible apply R.ite_f); decide)
  | ((with_reducible refine R.ite_d ?_ ?_) <;> intro <;> (try (exfalso; omega)))
  | ((with_reducible refine R.ite_nd ?_ ?_) <;> intro <;> (try (exfalso; omega)))
  | ((with_reducible refine R.ite_tW ?_ ?_) <;> intro <;> (try (exfalso; omega)))
  | ((with_reducible refine R.ite_ntW ?_ ?_) <;> intro <;> (try (exfalso; omega)))
  | ((with_reducible apply R.ite_t); exact rfl)
  | ((with_reducible apply R.ite_f); exact rfl)
  | ((with_reducible refine R.ite_b ?_ ?_) <;> intro)
  | ((with_reducible apply R.wIx_i); exact rfl; exact rfl)
  | ((with_reducible apply R.callK_v); exact rfl; exact rfl; exact rfl; (first | exact Or.inl rfl | exact Or.inr rfl))
  | ((with_reducible show ∀ _ : Int, 0 ≤ _ → _ < _ → _); intro _ _ _)
  | ((with_reducible show ∀ _ _ : Int, R.okB _ _ → _); intro _ _ _)
  | walk_at "c")
local macro_rules | `(tactic| walk_at "c") => `(tactic| first
  | ((with_reducible refine R.le_big ?_); first | (simp only [List.length_cons, List.length_nil, Nat.zero_add, Nat.reduceAdd]; decide) | decide | omega | (simp; done) | (simp; omega))
  | ((with_reducible refine R.lt_big ?_); first | decide | omega | (simp; done) | (simp; omega))
  | ((with_reducible show R.Prom.pre _ _); first | exact True.intro | (simp; done) | (simp; omega) | ((repeat' (first | with_reducible assumption | apply And.intro)) <;> first | with_reducible assumption | omega | (simp; done) | (simp; omega) | assumption | decide))
  | ((with_reducible show R.nd2 _ = true); first | exact rfl | (with_reducible assumption))
  | ((with_reducible show R.tB _ = true); first | (with_reducible assumption) | exact R.tB_ok (by with_reducible assumption) | decide)
  | ((with_reducible show R.tW _ _ _ = true); first | (with_reducible assumption) | (simp only [R.tW, Bool.and_eq_true, decide_eq_true_eq]; omega))
  | ((with_reducible show R.Shp _ _ ∧ R.Shp _ _); refine ⟨?_, ?_⟩ <;> walk_at "sp")
  | ((with_reducible show (_ : Nat) ≤ _); omega)
  | ((with_reducible show (_ : Int) ≤ _); first | decide | omega)
  | ((with_reducible show (_ : PyData) = _); with_reducible rfl)
  | ((with_reducible show (_ : Int) ≠ _); first | decide | omega)
  | ((with_reducible show R.MulOk _ _); first | exact Or.inl (by with_reducible assumption) | exact Or.inr (Or.inl (by with_reducible assumption)) | exact Or.inl ⟨by decide, by decide⟩ | exact Or.inr (Or.inl ⟨by decide, by decide⟩) | exact Or.inl ⟨by omega, by omega⟩ | exact Or.inr (Or.inl ⟨by omega, by omega⟩) | (apply R.MulOk.bd; walk_at "b"; walk_at "b"; first | decide | omega))
  | ((with_reducible show _ ≤ _ ∧ _); first | decide | omega | (simp; omega))
  | ((with_reducible show _ < _ ∧ _); first | decide | omega | (simp; omega))
  | ((with_reducible show _ ≠ _ ∧ _); first | decide | omega | (refine ⟨?_, ?_⟩ <;> (simp; done)) | (simp; omega))
  | ((with_reducible show _ = true ∧ R.flatD _ = true ∧ _); simp; done)
  | ((with_reducible show R.plainD _ = true ∧ _); simp; done)
  | ((with_reducible show _ ∧ _); ((repeat' (first | with_reducible assumption | with_reducible apply And.intro)) <;> first | with_reducible assumption | omega | decide))
  | walk_at "u"
  | ((with_reducible show ∃ _, _); (repeat with_reducible apply Exists.intro); with_reducible rfl)
  | ((with_reducible show R.noOw _ _); simp; done)
  | ((with_reducible show R.noDict _ = true); first | exact rfl | (with_reducible assumption))
  | ((with_reducible show ∀ y ∈ _, R.W.plain y = true); simp; done))
local macro_rules | `(tactic| walk_at "w") => `(tactic| (repeat' walk_at "w1"))
local macro_rules | `(tactic| walk_at "s") => `(tactic| all_goals try (first | (simp; done) | (simp; omega) | (simp_all; done) | (simp_all; omega)))
local macro_rules | `(tactic| walk_at "o") => `(tactic| simp only [R.startR, R.lawR, R.Prom.out, List.map_cons, List.map_nil, R.W.en, List.length_cons, List.length_nil, Nat.zero_add, Nat.reduceAdd, Nat.reduceSub, List.replicate_succ, List.replicate_zero, List.cons_append, List.nil_append])
local macro_rules | `(tactic| walk_at "b") => `(tactic| (repeat' first | with_reducible assumption | with_reducible exact R.lu_bd ‹R.okB _ _› _ | with_reducible exact R.Bd.pow (R.okB.bq ‹R.okB _ _›) _ | with_reducible exact R.okB.bp ‹R.okB _ _› | with_reducible exact R.okB.bq ‹R.okB _ _› | with_reducible apply R.Bd.mul | with_reducible apply R.Bd.add | with_reducible apply R.Bd.sub | with_reducible apply R.Bd.neg | (refine R.bd_of (k := 8) ?_; decide) | (refine R.bd_of (k := 64) ?_; first | decide | omega)))
local macro_rules | `(tactic| walk_at "lg") => `(tactic| (apply R.Bd.log; walk_at "b"; first | decide | omega))
local macro_rules | `(tactic| walk_at "sh") => `(tactic| (refine ⟨?_, ?_, ?_⟩; rotate_left; (focus (simp; done)); (focus (first | (simp; done) | (simp; omega) | decide)); simp only [R.shOks, R.shOk, Bool.and_eq_true, decide_eq_true_eq, and_true, Bool.and_true]; (repeat' apply And.intro) <;> walk_at "lg"))
local macro_rules | `(tactic| walk_at "r") => `(tactic| focus (first | walk_at "lg" | walk_at "sh" | (rename_i h; exact absurd rfl h)))
local macro_rules | `(tactic| walk_at "nd") => `(tactic| (repeat' first | with_reducible apply R.nd_i | with_reducible apply R.nd_b | with_reducible apply R.nd_n | with_reducible apply R.nd_s | with_reducible apply R.nd_t (m := 19) | with_reducible apply R.nd_t (m := 18) | with_reducible apply R.nd_t (m := 17) | with_reducible apply R.nd_t (m := 16) | with_reducible apply R.nd_l (m := 19) | with_reducible apply R.nd_l (m := 18) | with_reducible apply R.nd_l (m := 17) | with_reducible apply R.nd_l (m := 16) | with_reducible apply R.nds_n | with_reducible apply R.nds_tab | with_reducible apply R.nds_ints | with_reducible apply R.nds_prs | with_reducible apply R.nds_c | with_reducible apply R.nds_app | with_reducible apply R.nds_map | intro))
local macro_rules | `(tactic| walk_at "rk") => `(tactic| (apply R.reprOk_by; rotate_left; (focus (walk_at "nd")); (focus (first | (simp [R.shx, R.shxs]; done) | (simp [R.shx, R.shxs]; omega) | skip)); (repeat' first | with_reducible apply R.rok_t | with_reducible apply R.rok_l | with_reducible apply R.roks_n | with_reducible apply R.roks_tab | with_reducible apply R.roks_ints | with_reducible apply R.roks_prs | with_reducible apply R.roks_c | with_reducible apply R.roks_app | with_reducible apply R.rok_n | with_reducible apply R.rok_b | with_reducible apply R.rok_i | (with_reducible show R.rok (PyData.str _) = true; decide +kernel))))
def N_is_integer : List Str := ["thing"]
def w_is_integer : WS := wRet (wAndV (wIsi "int" (wVar 0)) (wNotV (wIsi "bool" (wVar 0))))
def N_is_within : List Str := ["thing", "low", "high"]
def w_is_within : WS := wRet (wAndV (wCall S_is_integer (waCons (wVar 0) (waNil))) (wChain wLeI wLeI (wVar 1) (wVar 0) (wVar 2)))
def N_is_base : List Str := ["thing", "one"]
def w_is_base : WS := wSeq (wIfS (wtOr (wtNot (wB (wIsi "tuple" (wVar 0)))) (wB (w2 wNe (wCB bLen (waCons (wVar 0) (waNil))) (wC (.int 2))))) (wRet (wC (.bool false))) (wNext)) (wRet (wCB bAll (waCons (wLc (.nm 1) [1] (wiSeq (wVar 0)) (wtYes) (wCall S_is_within (waCons (wVar 1) (waCons (w1 wNegI (wC (.int 100))) (waCons (wC (.int 100)) (waNil)))))) (waNil))))
def N_check_base : List Str := ["thing"]
def w_check_base : WS := wIfS (wtNot (wB (wCall S_is_base (waCons (wVar 0) (waNil))))) (wRaise "NoBase") (wNext)
def N_check_number : List Str := ["thing", "low", "high"]
def w_check_number : WS := wIfS (wtNot (wB (wCall S_is_within (waCons (wVar 0) (waCons (wVar 1) (waCons (wVar 2) (waNil))))))) (wRaise "NoNumber") (wNext)
def N_row_by : List Str := ["base", "first", "second", "many", "p", "q", "found"]
def w_row_by : WS := wSeq (wAsgP (.tp [4, 5]) (wVar 0)) (wSeq (wOwn 6 (wLst (waCons (wVar 1) (waCons (wVar 2) (waNil))))) (wSeq (wWhile (wB (w2 wLtI (wCB bLen (waCons (wVar 6) (waNil))) (wVar 3))) (wApp 6 (w2 wSub (w2 wMulB (wVar 4) (w2 wIx (wVar 6) (w1 wNegI (wC (.int 1))))) (w2 wMulB (wVar 5) (w2 wIx (wVar 6) (w1 wNegI (wC (.int 2)))))))) (wRet (wVar 6))))
def N_raw_u : List Str := ["base", "n"]
def w_raw_u : WS := wRet (w2 wIx (wCall S_row_by (waCons (wVar 0) (waCons (wC (.int 0)) (waCons (wC (.int 1)) (waCons (w2 wAddA (wVar 1) (wC (.int 1))) (waNil)))))) (wVar 1))
def N_raw_v : List Str := ["base", "n"]
def w_raw_v : WS := wRet (w2 wIx (wCall S_row_by (waCons (wVar 0) (waCons (wC (.int 2)) (waCons (w2 wIx (wVar 0) (wC (.int 0))) (waCons (w2 wAddA (wVar 1) (wC (.int 1))) (waNil)))))) (wVar 1))
def N_u_row : List Str := ["base", "many"]
def w_u_row : WS := wSeq (wDrop (wCall S_check_base (waCons (wVar 0) (waNil)))) (wSeq (wDrop (wCall S_check_number (waCons (wVar 1) (waCons (wC (.int 1)) (waCons (wC (.int 400)) (waNil)))))) (wRet (wCB bTuple (waCons (wSl (wCall S_row_by (waCons (wVar 0) (waCons (wC (.int 0)) (waCons (wC (.int 1)) (waCons (wVar 1) (waNil)))))) (woN) (woS (wVar 1))) (waNil)))))
def N_raw_power : List Str := ["number", "times", "found", "turn"]
def w_raw_power : WS := wSeq (wAsg 2 (wC (.int 1))) (wSeq (wFor (.nm 3) (wiR1 (waCons (wVar 1) (waNil))) (wAsg 2 (w2 wMulB (wVar 2) (wVar 0)))) (wRet (wVar 2)))
def N__law_some : List Str := ["bag", "things"]
def w__law_some : WS := wRet (w2 wIx (wVar 1) (wCall S__law_pick (waCons (wVar 0) (waCons (wCB bLen (waCons (wVar 1) (waNil))) (waNil)))))
def N__law_base : List Str := ["bag", "known", "most"]
def w__law_base : WS := wSeq (wAsg 1 (wLst (waCons (wTup (waCons (wC (.int 1)) (waCons (w1 wNegI (wC (.int 1))) (waNil)))) (waCons (wTup (waCons (wC (.int 2)) (waCons (w1 wNegI (wC (.int 1))) (waNil)))) (waCons (wTup (waCons (wC (.int 3)) (waCons (wC (.int 2)) (waNil)))) (waCons (wTup (waCons (wC (.int 1)) (waCons (wC (.int 2)) (waNil)))) (waCons (wTup (waCons (wC (.int 4)) (waCons (wC (.int 1)) (waNil)))) (waCons (wTup (waCons (wC (.int 3)) (waCons (wC (.int 1)) (waNil)))) (waCons (wTup (waCons (wC (.int 5)) (waCons (wC (.int 6)) (waNil)))) (waCons (wTup (waCons (wC (.int 0)) (waCons (wC (.int 1)) (waNil)))) (waCons (wTup (waCons (wC (.int 1)) (waCons (wC (.int 1)) (waNil)))) (waCons (wTup (waCons (wC (.int 2)) (waCons (wC (.int 1)) (waNil)))) (waCons (wTup (waCons (wC (.int 2)) (waCons (wC (.int 2)) (waNil)))) (waCons (wTup (waCons (wC (.int 6)) (waCons (wC (.int 9)) (waNil)))) (waCons (wTup (waCons (wC (.int 0)) (waCons (w1 wNegI (wC (.int 1))) (waNil)))) (waNil)))))))))))))))) (wSeq (wAsg 1 (w2 wAddA (wVar 1) (wLst (waCons (wTup (waCons (w1 wNegI (wC (.int 1))) (waCons (w1 wNegI (wC (.int 1))) (waNil)))) (waCons (wTup (waCons (wC (.int 7)) (waCons (wC (.int 0)) (waNil)))) (waCons (wTup (waCons (wC (.int 0)) (waCons (wC (.int 0)) (waNil)))) (waCons (wTup (waCons (w1 wNegI (wC (.int 2))) (waCons (wC (.int 1)) (waNil)))) (waCons (wTup (waCons (wC (.int 3)) (waCons (wC (.int 3)) (waNil)))) (waCons (wTup (waCons (wC (.int 2)) (waCons (wC (.int 4)) (waNil)))) (waCons (wTup (waCons (wC (.int 100)) (waCons (wC (.int 99)) (waNil)))) (waCons (wTup (waCons (wC (.int 10)) (waCons (w1 wNegI (wC (.int 100))) (waNil)))) (waCons (wTup (waCons (w1 wNegI (wC (.int 100))) (waCons (w1 wNegI (wC (.int 100))) (waNil)))) (waCons (wTup (waCons (wC (.int 9)) (waCons (wC (.int 20)) (waNil)))) (waNil)))))))))))))) (wSeq (wAsg 2 (wCall S__law_some (waCons (wVar 0) (waCons (wLst (waCons (wC (.int 0)) (waCons (wC (.int 0)) (waCons (wC (.int 5)) (waCons (wC (.int 5)) (waCons (wC (.int 20)) (waCons (wC (.int 100)) (waNil)))))))) (waNil))))) (wSeq (wIfS (wB (w2 wEq (wVar 2) (wC (.int 0)))) (wRet (wCall S__law_some (waCons (wVar 0) (waCons (wVar 1) (waNil))))) (wNext)) (wRet (wTup (waCons (w2 wSub (wCall S__law_pick (waCons (wVar 0) (waCons (w2 wAddA (w2 wMulB (wC (.int 2)) (wVar 2)) (wC (.int 1))) (waNil)))) (wVar 2)) (waCons (w2 wSub (wCall S__law_pick (waCons (wVar 0) (waCons (w2 wAddA (w2 wMulB (wC (.int 2)) (wVar 2)) (wC (.int 1))) (waNil)))) (wVar 2)) (waNil))))))))
def N__law_u : List Str := ["base", "many", "found"]
def w__law_u : WS := wSeq (wOwn 2 (wLst (waCons (wC (.int 0)) (waCons (wC (.int 1)) (waNil))))) (wSeq (wWhile (wB (w2 wLtI (wCB bLen (waCons (wVar 2) (waNil))) (wVar 1))) (wApp 2 (w2 wSub (w2 wMulB (w2 wIx (wVar 0) (wC (.int 0))) (w2 wIx (wVar 2) (w1 wNegI (wC (.int 1))))) (w2 wMulB (w2 wIx (wVar 0) (wC (.int 1))) (w2 wIx (wVar 2) (w1 wNegI (wC (.int 2)))))))) (wRet (wSl (wVar 2) (woN) (woS (wVar 1)))))
def N_u_term : List Str := ["base", "n"]
def w_u_term : WS := wSeq (wDrop (wCall S_check_base (waCons (wVar 0) (waNil)))) (wSeq (wDrop (wCall S_check_number (waCons (wVar 1) (waCons (wC (.int 0)) (waCons (wC (.int 400)) (waNil)))))) (wRet (wCall S_raw_u (waCons (wVar 0) (waCons (wVar 1) (waNil))))))
def N_cassini : List Str := ["base", "n", "row"]
def w_cassini : WS := wSeq (wDrop (wCall S_check_base (waCons (wVar 0) (waNil)))) (wSeq (wDrop (wCall S_check_number (waCons (wVar 1) (waCons (wC (.int 1)) (waCons (wC (.int 100)) (waNil)))))) (wSeq (wAsg 2 (wCall S_row_by (waCons (wVar 0) (waCons (wC (.int 0)) (waCons (wC (.int 1)) (waCons (w2 wAddA (wVar 1) (wC (.int 2))) (waNil))))))) (wRet (w2 wSub (w2 wMulB (w2 wIx (wVar 2) (wVar 1)) (w2 wIx (wVar 2) (wVar 1))) (w2 wMulB (w2 wIx (wVar 2) (w2 wSub (wVar 1) (wC (.int 1)))) (w2 wIx (wVar 2) (w2 wAddA (wVar 1) (wC (.int 1)))))))))
theorem pure__law_some : ∀ xs : List W, xs.length = S__law_some.n → (∀ y ∈ xs, y.isArg) → S__law_some.pre xs → w__law_some (startR N__law_some xs) (S__law_some.out xs) := by
  intro xs hl ha hp
  simp only [S__law_some, someS] at hp
  split at hp
  · rename_i ds
    have hp1 := List.length_pos_iff.mpr hp.1
    unfold w__law_some N__law_some
    walk_at "o"
    walk_at "w"
    rename_i r h0 h1
    obtain ⟨d, hd, e⟩ := atI_mem (xs := ds) h0 h1
    refine wIx_i rfl e ?_
    walk_at "w"
    exact ⟨d, hd, rfl⟩
  · rename_i ds
    have hp1 := List.length_pos_iff.mpr hp.1
    unfold w__law_some N__law_some
    walk_at "o"
    walk_at "w"
    rename_i r h0 h1
    obtain ⟨d, hd, e⟩ := atI_mem (xs := ds) h0 h1
    refine wIx_i rfl e ?_
    walk_at "w"
    exact ⟨d, hd, rfl⟩
  · exact hp.elim
theorem pure_is_integer : ∀ xs : List W, xs.length = S_is_integer.n → (∀ y ∈ xs, y.isArg) → S_is_integer.pre xs → w_is_integer (startR N_is_integer xs) (S_is_integer.out xs) := by
  intro xs hl ha hp
  simp only [S_is_integer] at hp
  split at hp
  · rename_i t
    unfold w_is_integer N_is_integer
    walk_at "o"
    cases t <;> walk_at "w" <;> simp
  · exact hp.elim
theorem pure_is_within : ∀ xs : List W, xs.length = S_is_within.n → (∀ y ∈ xs, y.isArg) → S_is_within.pre xs → w_is_within (startR N_is_within xs) (S_is_within.out xs) := by
  intro xs hl ha hp
  simp only [S_is_within] at hp
  split at hp
  · rename_i t l h
    unfold w_is_within N_is_within
    walk_at "o"
    cases t <;> walk_at "w"
    walk_at "s"
  · exact hp.elim
theorem pure_is_base : ∀ xs : List W, xs.length = S_is_base.n → (∀ y ∈ xs, y.isArg) → S_is_base.pre xs → w_is_base (startR N_is_base xs) (S_is_base.out xs) := by
  intro xs hl ha hp
  simp only [S_is_base] at hp
  split at hp
  · rename_i t
    unfold w_is_base N_is_base
    walk_at "o"
    cases t
    case tuple ts =>
      walk_at "w"
      · rename_i h
        rcases ts with _ | ⟨x, _ | ⟨y, _ | ⟨z, r⟩⟩⟩ <;> first | rfl | exact absurd rfl h
      · rename_i h
        obtain ⟨x, y, rfl⟩ : ∃ x y, ts = [x, y] := by
          match ts, h with
          | [x, y], _ => exact ⟨x, y, rfl⟩
          | [], h => simp at h
          | [x], h => simp at h
          | x :: y :: z :: r, h => simp at h; omega
        have hq : noDict x = true ∧ noDict y = true := by simpa [nd2] using hp
        have hn : ∀ d ∈ [x, y], noDict d = true := by simpa using hq
        refine wLcK_map (fun d => .bool (tW (-100) 100 d)) (by simp) (le_big (by simp)) (fun d hd k hk => ?_) ?_
        · have := hn d hd
          walk_at "w"
          exact hk
        · walk_at "w"
          all_goals simp [tB]
    case dict kvs => cases hp
    all_goals walk_at "w"
    all_goals simp [tB]
  · exact hp.elim
theorem pure_check_base : ∀ xs : List W, xs.length = S_check_base.n → (∀ y ∈ xs, y.isArg) → S_check_base.pre xs → w_check_base (startR N_check_base xs) (S_check_base.out xs) := by
  intro xs hl ha hp
  simp only [S_check_base] at hp
  split at hp
  · rename_i t
    unfold w_check_base N_check_base
    walk_at "o"
    walk_at "w"
    all_goals simp_all
  · exact hp.elim
theorem pure_check_number : ∀ xs : List W, xs.length = S_check_number.n → (∀ y ∈ xs, y.isArg) → S_check_number.pre xs → w_check_number (startR N_check_number xs) (S_check_number.out xs) := by
  intro xs hl ha hp
  simp only [S_check_number] at hp
  split at hp
  · rename_i t l h
    unfold w_check_number N_check_number
    walk_at "o"
    walk_at "w"
    all_goals simp_all
  · exact hp.elim
theorem pure_row_by : ∀ xs : List W, xs.length = S_row_by.n → (∀ y ∈ xs, y.isArg) → S_row_by.pre xs → w_row_by (startR N_row_by xs) (S_row_by.out xs) := by
  intro xs hl ha hp
  simp only [S_row_by] at hp
  split at hp
  · rename_i p q a b m
    obtain ⟨h1, h2, hm⟩ := hp
    unfold w_row_by N_row_by
    walk_at "o"
    walk_at "w"
    refine wWhile_k (fun j ρ => ∃ n, 2 ≤ n ∧ n ≤ max 2 m.toNat ∧ j = max 2 m.toNat - n ∧ ρ = [some (.im (.tuple [.int p, .int q])), some (.im (.int a)), some (.im (.int b)), some (.im (.int m)), some (.im (.int p)), some (.im (.int q)), some (.ow (rowD p q a b n))]) (max 2 m.toNat - 2) ⟨2, by omega, by omega, rfl, rfl⟩ ?_
    rintro j ρ ⟨n, h2, hn, rfl, rfl⟩
    walk_at "w"
    · rename_i hlt
      try simp at hlt
      refine ⟨max 2 m.toNat - (n + 1), by omega, n + 1, by omega, by omega, rfl, ?_⟩
      rw [rowD_succ]
      obtain ⟨z, rfl⟩ : ∃ z, n = z + 2 := ⟨n - 2, by omega⟩
      rfl
    · rename_i hlt
      try simp at hlt
      have : n = max 2 m.toNat := by omega
      simp only [S_row_by]
      rw [← this]
  · exact hp.elim
theorem pure_raw_u : ∀ xs : List W, xs.length = S_raw_u.n → (∀ y ∈ xs, y.isArg) → S_raw_u.pre xs → w_raw_u (startR N_raw_u xs) (S_raw_u.out xs) := by
  intro xs hl ha hp
  simp only [S_raw_u] at hp
  split at hp
  · rename_i p q n
    obtain ⟨h1, h2, h3, h4⟩ := hp
    unfold w_raw_u N_raw_u
    walk_at "o"
    walk_at "w"
    rfl
  · exact hp.elim
theorem pure_raw_v : ∀ xs : List W, xs.length = S_raw_v.n → (∀ y ∈ xs, y.isArg) → S_raw_v.pre xs → w_raw_v (startR N_raw_v xs) (S_raw_v.out xs) := by
  intro xs hl ha hp
  simp only [S_raw_v] at hp
  split at hp
  · rename_i p q n
    obtain ⟨h1, h2, h3, h4⟩ := hp
    unfold w_raw_v N_raw_v
    walk_at "o"
    walk_at "w"
    rfl
  · exact hp.elim
theorem pure_u_row : ∀ xs : List W, xs.length = S_u_row.n → (∀ y ∈ xs, y.isArg) → S_u_row.pre xs → w_u_row (startR N_u_row xs) (S_u_row.out xs) := by
  intro xs hl ha hp
  simp only [S_u_row] at hp
  split at hp
  · rename_i p q n
    obtain ⟨h1, h3, h4⟩ := hp
    have h2 := h1
    obtain ⟨h5, h6, h7, h8⟩ := h2
    unfold w_u_row N_u_row
    walk_at "o"
    walk_at "w"
    simp only [S_u_row]
    congr 3
    omega
  · exact hp.elim
theorem pure_u_term : ∀ xs : List W, xs.length = S_u_term.n → (∀ y ∈ xs, y.isArg) → S_u_term.pre xs → w_u_term (startR N_u_term xs) (S_u_term.out xs) := by
  intro xs hl ha hp
  simp only [S_u_term] at hp
  split at hp
  · rename_i p q n
    obtain ⟨h1, h3, h4⟩ := hp
    have h2 := h1
    obtain ⟨h5, h6, h7, h8⟩ := h2
    unfold w_u_term N_u_term
    walk_at "o"
    walk_at "w"
    rfl
  · exact hp.elim
theorem pure_cassini : ∀ xs : List W, xs.length = S_cassini.n → (∀ y ∈ xs, y.isArg) → S_cassini.pre xs → w_cassini (startR N_cassini xs) (S_cassini.out xs) := by
  intro xs hl ha hp
  simp only [S_cassini] at hp
  split at hp
  · rename_i p q n
    obtain ⟨h1, h2, h3⟩ := hp
    unfold w_cassini N_cassini
    walk_at "o"
    walk_at "w"
    obtain ⟨m, rfl⟩ : ∃ m : Nat, n = m + 1 := ⟨(n - 1).toNat, by omega⟩
    have := lu_catalan p q 1 m
    have e1 : ((m : Int) + 1).toNat = m + 1 := by omega
    have e2 : ((m : Int) + 1 - 1).toNat = m := by omega
    have e3 : ((m : Int) + 1 + 1).toNat = m + 2 := by omega
    simp only [S_cassini, e1, e2, e3]
    rw [show m + 2 = m + 2 * 1 from rfl, this]
    simp [lu]
  · exact hp.elim
theorem pure_raw_power : ∀ xs : List W, xs.length = S_raw_power.n → (∀ y ∈ xs, y.isArg) → S_raw_power.pre xs → w_raw_power (startR N_raw_power xs) (S_raw_power.out xs) := by
  intro xs hl ha hp
  simp only [S_raw_power] at hp
  split at hp
  · rename_i a n
    obtain ⟨h1, h2⟩ := hp
    unfold w_raw_power N_raw_power
    walk_at "o"
    walk_at "w"
    refine forK_i (fun i ρ => ∃ x, ρ = [some (.im (.int a)), some (.im (.int n)), some (.im (.int (a ^ i))), x]) ⟨_, by simp; rfl⟩ ?_ ?_
    · rintro i d ρ hd ⟨x, rfl⟩
      walk_at "w"
      exact ⟨_, by rw [Int.pow_succ]⟩
    · rintro ρ ⟨x, rfl⟩
      walk_at "w"
      simp
  · exact hp.elim
theorem pure__law_base : ∀ xs : List W, xs.length = S__law_base.n → (∀ y ∈ xs, y.isArg) → S__law_base.pre xs → w__law_base (startR N__law_base xs) (S__law_base.out xs) := by
  intro xs hl ha hp
  simp only [S__law_base] at hp
  split at hp
  · unfold w__law_base N__law_base
    walk_at "o"
    walk_at "w"
    intro m hm
    obtain ⟨most, rfl, h0, h1⟩ : ∃ k : Int, m = .int k ∧ 0 ≤ k ∧ k ≤ 100 := by
      simp at hm
      rcases hm with rfl | rfl | rfl | rfl <;> exact ⟨_, rfl, by decide, by decide⟩
    walk_at "w"
    · intro d hd
      walk_at "w"
      obtain ⟨p, q, rfl, hb⟩ := tB_get ((show ∀ d ∈ _, tB d = true by decide) d hd)
      exact ⟨p, q, rfl, hb⟩
    · exact ⟨_, _, rfl, by unfold okB; omega⟩
  · exact hp.elim
theorem pure__law_u : ∀ xs : List W, xs.length = S__law_u.n → (∀ y ∈ xs, y.isArg) → S__law_u.pre xs → w__law_u (startR N__law_u xs) (S__law_u.out xs) := by
  intro xs hl ha hp
  simp only [S__law_u] at hp
  split at hp
  · rename_i p q m
    obtain ⟨h1, h2, h3, hm⟩ := hp
    unfold w__law_u N__law_u
    walk_at "o"
    walk_at "w"
    refine wWhile_k (fun j ρ => ∃ n, 2 ≤ n ∧ n ≤ max 2 m.toNat ∧ j = max 2 m.toNat - n ∧ ρ = [some (.im (.tuple [.int p, .int q])), some (.im (.int m)), some (.ow (rowD p q 0 1 n))]) (max 2 m.toNat - 2) ⟨2, by omega, by omega, rfl, rfl⟩ ?_
    rintro j ρ ⟨n, h2, hn, rfl, rfl⟩
    walk_at "w"
    · rename_i hlt
      try simp at hlt
      refine ⟨max 2 m.toNat - (n + 1), by omega, n + 1, by omega, by omega, rfl, ?_⟩
      rw [rowD_succ]
      obtain ⟨z, rfl⟩ : ∃ z, n = z + 2 := ⟨n - 2, by omega⟩
      rfl
    · rename_i hlt
      try simp at hlt
      simp only [S__law_u]
      congr 2
      omega
  · exact hp.elim
end R
namespace Hd
open PySem PySem.Spec PyProof.Rows L2 R
set_option autoImplicit false
/-! lots by their size -/
def waysF (m : Int) : Nat → Int
  | 0 => 1
  | k + 1 => (waysF m k * (m - k)).fdiv (k + 1)
def lineF (n : Int) (k : Int) : Int := if n - k + 1 ≥ k then waysF (n - k + 1) k.toNat else 0
def sizeF (n : Int) (r : Bool) (k : Nat) : Int := if r then (if k = 0 then 1 else lineF (n - 1) k + lineF (n - 3) (k - 1)) else lineF n k
def trimN (f : Nat → Int) : Nat → Nat
  | 0 => 0
  | j + 1 => if f j = 0 then trimN f j else j + 1
def onL : Nat → List Int × List Int
  | 0 => ([1], [0])
  | k + 1 => (List.zipWith (· + ·) (onL k).1 (onL k).2 ++ [0], 0 :: (onL k).1)
def onRaw (n : Nat) : List Int := List.zipWith (· + ·) (onL n).1 (onL n).2
def onLine (n : Nat) : List Int := (onRaw n).take (trimN (fun i => (onRaw n).getD i 0) (onRaw n).length)
def padTo (w : Nat) (l : List Int) : List Int := l ++ List.replicate (w - l.length) 0
def onRound (n : Nat) : List Int := List.zipWith (· + ·) (padTo (max (onLine (n - 1)).length (0 :: onLine (n - 3)).length) (onLine (n - 1))) (padTo (max (onLine (n - 1)).length (0 :: onLine (n - 3)).length) (0 :: onLine (n - 3)))
def sizes (n : Nat) (r : Bool) : List Int := (List.range (trimN (sizeF n r) (n + 1))).map (sizeF n r)
def altS : Nat → List Int → Int
  | _, [] => 0
  | k, x :: l => (if k % 2 = 0 then x else -x) + altS (k + 1) l
/-- a comprehension over as many items, each by its place -/
theorem wLcK_gen {pt : Pt} {vs : List Nat} {we : WE} {ρ : Rho} {Q : W → Prop} {G : Nat → D} {n : Nat} (f : Nat → Int) (hn : noOw vs ρ) (hb : n ≤ big)
    (h : ∀ i, i < n → ∀ k : D → Prop, k (.int (f i)) → pt.bind (G i) (wipeR ρ vs) fun ρ2 => we ρ2 (fun z => z.clnK k) (fun _ => False)) (q : Q (.fr (tab f n))) : wLcK pt vs wtYes we ρ Q ((List.range n).map G) := by
  refine ⟨hn, fun i acc => acc = tab f i, rfl, fun i d acc hd e => ?_, fun acc e => ?_⟩
  · have hi : i < n := by
      have := (List.getElem?_eq_some_iff.mp hd).1
      simpa using this
    rw [List.getElem?_map, List.getElem?_range hi] at hd
    cases hd
    have hl : acc.length = i := by rw [e]; simp
    refine h i hi _ ⟨by omega, ?_⟩
    show _ = _
    rw [e, tab_succ]
  · have e2 : acc = tab f n := by rw [show acc = tab f ((List.range n).map G).length from e, List.length_map, List.length_range]
    rw [e2]; exact q
theorem Bd.log2_9000 {i : Int} (h : Bd i 9) : i.natAbs.log2 < 9000 := by
  by_cases z : i.natAbs = 0
  · rw [z]; decide
  · have : i.natAbs.log2 < 9 := (Nat.log2_lt z).mpr h
    omega
theorem onL_len : ∀ n : Nat, (onL n).1.length = n + 1 ∧ (onL n).2.length = n + 1
  | 0 => ⟨rfl, rfl⟩
  | n + 1 => by
    obtain ⟨h1, h2⟩ := onL_len n
    constructor
    · simp only [onL, List.length_append, List.length_zipWith, List.length_singleton]; omega
    · simp only [onL, List.length_cons]; omega
theorem onRaw_len (n : Nat) : (onRaw n).length = n + 1 := by
  obtain ⟨h1, h2⟩ := onL_len n
  simp only [onRaw, List.length_zipWith]; omega
theorem onLine_len (n : Nat) : (onLine n).length ≤ n + 1 := by
  have := onRaw_len n
  simp only [onLine, List.length_take]; omega
def addD : D → D
  | .tuple [.int a, .int b] => .int (a + b)
  | _ => .none
theorem zip_in {xs ys : List Int} {d : D} (h : d ∈ zipD (xs.map .int) (ys.map .int)) : ∃ a b : Int, d = .tuple [.int a, .int b] := by
  obtain ⟨i, hi⟩ := List.getElem?_of_mem h
  obtain ⟨d1, d2, e1, e2, rfl⟩ := zipD_get hi
  obtain ⟨a, _, rfl⟩ := List.mem_map.mp (List.mem_of_getElem? e1)
  obtain ⟨b, _, rfl⟩ := List.mem_map.mp (List.mem_of_getElem? e2)
  exact ⟨a, b, rfl⟩
theorem zip_add : ∀ xs ys : List Int, (zipD (xs.map .int) (ys.map .int)).map addD = (List.zipWith (· + ·) xs ys).map .int
  | [], _ => by simp [zipD]
  | _ :: _, [] => by simp [zipD]
  | x :: xs, y :: ys => by
    have h := zip_add xs ys
    simp only [zipD, List.map_cons, List.zip_cons_cons, List.zipWith_cons_cons] at h ⊢
    rw [h]
    rfl
theorem map_tab (l : List Int) : l.map PyData.int = tab (fun i => l.getD i 0) l.length := by
  apply List.ext_getElem?
  intro i
  by_cases h : i < l.length
  · rw [tab_at h, List.getElem?_map, List.getElem?_eq_getElem h]
    simp [h]
  · rw [List.getElem?_eq_none (by simp; omega), List.getElem?_eq_none (by simp; omega)]
theorem raw_first : ∀ n : Nat, n < 61 → (onRaw n).getD 0 0 = 1 := by decide +kernel
theorem rep_flat {k : Nat} : (List.replicate k [PyData.int 0]).flatten = (List.replicate k 0).map PyData.int := in_rep.eq
theorem trim_step {f : Nat → Int} {j : Nat} (hj : 1 ≤ j) (h : f (j - 1) = 0) : trimN f j = trimN f (j - 1) := by
  obtain ⟨k, rfl⟩ : ∃ k, j = k + 1 := ⟨j - 1, by omega⟩
  show (if f k = 0 then trimN f k else k + 1) = _
  rw [if_pos (show f k = 0 from h)]
  rfl
theorem trim_end {f : Nat → Int} {j : Nat} (hj : 1 ≤ j) (h : ¬f (j - 1) = 0) : trimN f j = j := by
  obtain ⟨k, rfl⟩ : ∃ k, j = k + 1 := ⟨j - 1, by omega⟩
  show (if f k = 0 then trimN f k else k + 1) = _
  rw [if_neg (show ¬f k = 0 from h)]
theorem size_0 (n : Int) (r : Bool) (h : 1 ≤ n) : sizeF n r 0 = 1 := by
  unfold sizeF lineF
  cases r
  · rw [if_neg (by decide), if_pos (by simp; omega)]; rfl
  · rfl
theorem enum_tab {f : Nat → Int} {n : Nat} : enumD (tab f n) = (List.range n).map fun i => .tuple [.int (i : Nat), .int (f i)] := by
  apply List.ext_getElem?
  intro i
  by_cases h : i < n
  · rw [enumD_at (tab_at h), List.getElem?_map, List.getElem?_range h]
    rfl
  · rw [List.getElem?_eq_none (by rw [enumD_len, tab_len]; omega), List.getElem?_eq_none (by simp; omega)]
theorem par_of {i : Nat} (h : (i : Int).fmod 2 = 0) : i % 2 = 0 := by
  rw [Int.fmod_eq_emod_of_nonneg _ (by decide)] at h
  omega
theorem par_no {i : Nat} (h : ¬(i : Int).fmod 2 = 0) : ¬i % 2 = 0 := by
  rw [Int.fmod_eq_emod_of_nonneg _ (by decide)] at h
  omega
theorem alt_tab : ∀ (N k : Nat) (f : Nat → Int), ((List.range N).map fun i => if (k + i) % 2 = 0 then f i else -f i).sum = altS k ((List.range N).map f)
  | 0, _, _ => rfl
  | N + 1, k, f => by
    have h := alt_tab N (k + 1) fun i => f (i + 1)
    rw [List.range_succ_eq_map, List.map_cons, List.map_cons, List.map_map, List.map_map, List.sum_cons, altS]
    have e : ((fun i => if (k + i) % 2 = 0 then f i else -f i) ∘ Nat.succ) = fun i => if (k + 1 + i) % 2 = 0 then f (i + 1) else -f (i + 1) := by
      funext i
      show (if (k + (i + 1)) % 2 = 0 then _ else _) = _
      rw [show k + (i + 1) = k + 1 + i by omega]
    rw [e, h]
    rfl
theorem map_asI (l : List Int) : (l.map PyData.int).map asI = l := by
  induction l with
  | nil => rfl
  | cons x l ih => rw [List.map_cons, List.map_cons, ih]; rfl
theorem isI_map (l : List Int) : ∀ d ∈ l.map PyData.int, isI d := fun d h => by
  obtain ⟨_, _, rfl⟩ := List.mem_map.mp h
  trivial
def alt (f : Nat → Int) (i : Nat) : Int := if i % 2 = 0 then f i else -f i
theorem alt_sum (f : Nat → Int) (N : Nat) : ((tab (alt f) N).map asI).sum = altS 0 ((List.range N).map f) := by
  have h := alt_tab N 0 f
  rw [← h, tab_ints, map_asI]
  congr 1
  refine List.map_congr_left fun i _ => ?_
  rw [Nat.zero_add]
  rfl
theorem size_small : ∀ n : Nat, n < 61 → (∀ x ∈ sizes n false, x.natAbs < 2 ^ 64) ∧ (∀ x ∈ sizes n true, x.natAbs < 2 ^ 64) ∧ (sizes n false).length ≤ 61 ∧ (sizes n true).length ≤ 61 := by decide +kernel
theorem trimN_le (f : Nat → Int) : ∀ j, trimN f j ≤ j
  | 0 => Nat.le_refl _
  | j + 1 => by
    have := trimN_le f j
    simp only [trimN]
    split <;> omega
theorem size_fact : ∀ n : Nat, n < 61 → 3 ≤ n → sizes n false = onLine n ∧ sizes n true = onRound n ∧ (sizes n false).sum = lu 1 (-1) 0 1 (n + 2) ∧ (sizes n true).sum = lu 1 (-1) 2 1 n ∧
    (-2 ≤ altS 0 (sizes n false) ∧ altS 0 (sizes n false) ≤ 2) ∧ -2 ≤ altS 0 (sizes n true) ∧ altS 0 (sizes n true) ≤ 2 := by decide +kernel
@[simp] def S_lots_on_line : Prom where
  n := 1
  pre := fun xs => match xs with
    | [.d (.int n)] => 1 ≤ n ∧ n ≤ 200
    | _ => False
  post := fun xs z => match xs with
    | [.d (.int n)] => z = .d (.int (lu 1 (-1) 0 1 (n + 2).toNat))
    | _ => False
@[simp] def S_lots_on_round : Prom where
  n := 1
  pre := fun xs => match xs with
    | [.d (.int n)] => 3 ≤ n ∧ n ≤ 200
    | _ => False
  post := fun xs z => match xs with
    | [.d (.int n)] => z = .d (.int (lu 1 (-1) 2 1 n.toNat))
    | _ => False
@[simp] def S_ways_to_take : Prom where
  n := 2
  pre := fun xs => match xs with
    | [.d (.int m), .d (.int s)] => 0 ≤ m ∧ m ≤ 62 ∧ 0 ≤ s ∧ s ≤ 62
    | _ => False
  post := fun xs z => match xs with
    | [.d (.int m), .d (.int s)] => z = .d (.int (waysF m s.toNat))
    | _ => False
@[simp] def S_sized_line : Prom where
  n := 2
  pre := fun xs => match xs with
    | [.d (.int n), .d (.int k)] => -1 ≤ n ∧ n ≤ 60 ∧ 0 ≤ k ∧ k ≤ 61
    | _ => False
  post := fun xs z => match xs with
    | [.d (.int n), .d (.int k)] => z = .d (.int (lineF n k))
    | _ => False
@[simp] def S_lots_by_size : Prom where
  n := 2
  pre := fun xs => match xs with
    | [.d (.int n), .d (.bool r)] => 1 ≤ n ∧ n ≤ 60 ∧ (r = true → 3 ≤ n)
    | _ => False
  post := fun xs z => match xs with
    | [.d (.int n), .d (.bool r)] => z = .d (.tuple (tab (sizeF n r) (trimN (sizeF n r) (n.toNat + 1))))
    | _ => False
@[simp] def S__law_on_line : Prom where
  n := 1
  pre := fun xs => match xs with
    | [.d (.int n)] => 0 ≤ n ∧ n ≤ 60
    | _ => False
  post := fun xs z => match xs with
    | [.d (.int n)] => z = .fr ((onLine n.toNat).map PyData.int)
    | _ => False
@[simp] def S__law_on_round : Prom where
  n := 1
  pre := fun xs => match xs with
    | [.d (.int n)] => 3 ≤ n ∧ n ≤ 60
    | _ => False
  post := fun xs z => match xs with
    | [.d (.int n)] => z = .fr ((onRound n.toNat).map PyData.int)
    | _ => False

def N_lots_on_line : List Str := ["many"]
def w_lots_on_line : WS := wSeq (wDrop (wCall S_check_number (waCons (wVar 0) (waCons (wC (.int 1)) (waCons (wC (.int 200)) (waNil)))))) (wRet (wCall S_raw_u (waCons (wC (.tuple [.int 1, .int (-1)])) (waCons (w2 wAddA (wVar 0) (wC (.int 2))) (waNil)))))
def N_lots_on_round : List Str := ["many"]
def w_lots_on_round : WS := wSeq (wDrop (wCall S_check_number (waCons (wVar 0) (waCons (wC (.int 3)) (waCons (wC (.int 200)) (waNil)))))) (wRet (wCall S_raw_v (waCons (wC (.tuple [.int 1, .int (-1)])) (waCons (wVar 0) (waNil)))))
def N_ways_to_take : List Str := ["many", "size", "found", "at"]
def w_ways_to_take : WS := wSeq (wAsg 2 (wC (.int 1))) (wSeq (wFor (.nm 3) (wiR1 (waCons (wVar 1) (waNil))) (wAsg 2 (w2 wDiv (w2 wMulB (wVar 2) (w2 wSub (wVar 0) (wVar 3))) (w2 wAddA (wVar 3) (wC (.int 1)))))) (wRet (wVar 2)))
def N_sized_line : List Str := ["many", "size"]
def w_sized_line : WS := wRet (wIf (wB (w2 wGeI (w2 wAddA (w2 wSub (wVar 0) (wVar 1)) (wC (.int 1))) (wVar 1))) (wCall S_ways_to_take (waCons (w2 wAddA (w2 wSub (wVar 0) (wVar 1)) (wC (.int 1))) (waCons (wVar 1) (waNil)))) (wC (.int 0)))
def N_lots_by_size : List Str := ["many", "is_round", "found", "size"]
def w_lots_by_size : WS := wSeq (wDrop (wCall S_check_number (waCons (wVar 0) (waCons (wC (.int 1)) (waCons (wC (.int 60)) (waNil)))))) (wSeq (wIfS (wtNot (wB (wIsi "bool" (wVar 1)))) (wRaise "NoFlag") (wNext)) (wSeq (wIfS (wB (wVar 1)) (wSeq (wDrop (wCall S_check_number (waCons (wVar 0) (waCons (wC (.int 3)) (waCons (wC (.int 60)) (waNil)))))) (wSeq (wOwn 2 (wLst (waCons (wC (.int 1)) (waNil)))) (wFor (.nm 3) (wiR2 (waCons (wC (.int 1)) (waCons (w2 wAddA (wVar 0) (wC (.int 1))) (waNil)))) (wApp 2 (w2 wAddA (wCall S_sized_line (waCons (w2 wSub (wVar 0) (wC (.int 1))) (waCons (wVar 3) (waNil)))) (wCall S_sized_line (waCons (w2 wSub (wVar 0) (wC (.int 3))) (waCons (w2 wSub (wVar 3) (wC (.int 1))) (waNil))))))))) (wOwn 2 (wLc (.nm 3) [3] (wiR1 (waCons (w2 wAddA (wVar 0) (wC (.int 1))) (waNil))) (wtYes) (wCall S_sized_line (waCons (wVar 0) (waCons (wVar 3) (waNil))))))) (wSeq (wWhile (wB (w2 wEq (w2 wIx (wVar 2) (w1 wNegI (wC (.int 1)))) (wC (.int 0)))) (wPop 2)) (wRet (wCB bTuple (waCons (wVar 2) (waNil)))))))
def N__law_on_line : List Str := ["many", "free", "taken", "turn", "both", "found", "one", "other"]
def w__law_on_line : WS := wSeq (wParG [(1, false), (2, false)] (waCons (wLst (waCons (wC (.int 1)) (waNil))) (waCons (wLst (waCons (wC (.int 0)) (waNil))) (waNil)))) (wSeq (wFor (.nm 3) (wiR1 (waCons (wVar 0) (waNil))) (wSeq (wAsg 4 (wLc (.tp [6, 7]) [6, 7] (wiZip (wVar 1) (wVar 2)) (wtYes) (w2 wAddA (wVar 6) (wVar 7)))) (wSeq (wAsg 2 (w2 wAddA (wLst (waCons (wC (.int 0)) (waNil))) (wVar 1))) (wAsg 1 (w2 wAddA (wVar 4) (wLst (waCons (wC (.int 0)) (waNil)))))))) (wSeq (wOwn 5 (wLc (.tp [6, 7]) [6, 7] (wiZip (wVar 1) (wVar 2)) (wtYes) (w2 wAddA (wVar 6) (wVar 7)))) (wSeq (wWhile (wB (w2 wEq (w2 wIx (wVar 5) (w1 wNegI (wC (.int 1)))) (wC (.int 0)))) (wPop 5)) (wRet (wVar 5)))))
def N__law_on_round : List Str := ["many", "without", "having", "wide", "one", "other"]
def w__law_on_round : WS := wSeq (wParG [(1, false), (2, false)] (waCons (wCall S__law_on_line (waCons (w2 wSub (wVar 0) (wC (.int 1))) (waNil))) (waCons (w2 wAddA (wLst (waCons (wC (.int 0)) (waNil))) (wCall S__law_on_line (waCons (w2 wSub (wVar 0) (wC (.int 3))) (waNil)))) (waNil)))) (wSeq (wAsg 3 (wCB bMax2 (waCons (wCB bLen (waCons (wVar 1) (waNil))) (waCons (wCB bLen (waCons (wVar 2) (waNil))) (waNil))))) (wSeq (wParG [(1, false), (2, false)] (waCons (w2 wAddA (wVar 1) (w2 wMulB (wLst (waCons (wC (.int 0)) (waNil))) (w2 wSub (wVar 3) (wCB bLen (waCons (wVar 1) (waNil)))))) (waCons (w2 wAddA (wVar 2) (w2 wMulB (wLst (waCons (wC (.int 0)) (waNil))) (w2 wSub (wVar 3) (wCB bLen (waCons (wVar 2) (waNil)))))) (waNil)))) (wRet (wLc (.tp [4, 5]) [4, 5] (wiZip (wVar 1) (wVar 2)) (wtYes) (w2 wAddA (wVar 4) (wVar 5))))))
def N_law : List Str := ["script", "bag", "turn", "many", "line", "ring", "row", "at", "one"]
def w_law : WS := wSeq (wIfS (wB (w2 wNe (wLc (.nm 3) [3] (wiSeq (wTup (waCons (wC (.int 1)) (waCons (wC (.int 3)) (waCons (wC (.int 5)) (waNil)))))) (wtYes) (wCall S_lots_by_size (waCons (wVar 3) (waCons (wC (.bool false)) (waNil))))) (wLst (waCons (wTup (waCons (wC (.int 1)) (waCons (wC (.int 1)) (waNil)))) (waCons (wTup (waCons (wC (.int 1)) (waCons (wC (.int 3)) (waCons (wC (.int 1)) (waNil))))) (waCons (wTup (waCons (wC (.int 1)) (waCons (wC (.int 5)) (waCons (wC (.int 6)) (waCons (wC (.int 1)) (waNil)))))) (waNil))))))) (wRet (wC (.bool false))) (wNext)) (wSeq (wIfS (wB (w2 wNe (wLc (.nm 3) [3] (wiSeq (wTup (waCons (wC (.int 3)) (waCons (wC (.int 4)) (waNil))))) (wtYes) (wCall S_lots_by_size (waCons (wVar 3) (waCons (wC (.bool true)) (waNil))))) (wLst (waCons (wTup (waCons (wC (.int 1)) (waCons (wC (.int 3)) (waNil)))) (waCons (wTup (waCons (wC (.int 1)) (waCons (wC (.int 4)) (waCons (wC (.int 2)) (waNil))))) (waNil)))))) (wRet (wC (.bool false))) (wNext)) (wSeq (wFor (.nm 2) (wiR1 (waCons (wC (.int 12)) (waNil))) (wSeq (wAsg 3 (wCall S__law_some (waCons (wVar 1) (waCons (wLst (waCons (wC (.int 3)) (waCons (wC (.int 4)) (waCons (wC (.int 60)) (waCons (wC (.int 59)) (waCons (w2 wAddA (wC (.int 3)) (wCall S__law_pick (waCons (wVar 1) (waCons (wC (.int 58)) (waNil))))) (waNil))))))) (waNil))))) (wSeq (wParG [(4, false), (5, false)] (waCons (wCall S_lots_by_size (waCons (wVar 3) (waCons (wC (.bool false)) (waNil)))) (waCons (wCall S_lots_by_size (waCons (wVar 3) (waCons (wC (.bool true)) (waNil)))) (waNil)))) (wSeq (wIfS (wB (wRN false (wLst (waCons (wVar 4) (waCons (wVar 5) (waNil)))) (wLst (waCons (wCB bTuple (waCons (wCall S__law_on_line (waCons (wVar 3) (waNil))) (waNil))) (waCons (wCB bTuple (waCons (wCall S__law_on_round (waCons (wVar 3) (waNil))) (waNil))) (waNil)))))) (wRet (wC (.bool false))) (wNext)) (wSeq (wIfS (wB (w2 wNe (wLst (waCons (wCB bSumA (waCons (wVar 4) (waNil))) (waCons (wCB bSumA (waCons (wVar 5) (waNil))) (waNil)))) (wLst (waCons (wCall S_lots_on_line (waCons (wVar 3) (waNil))) (waCons (wCall S_lots_on_round (waCons (wVar 3) (waNil))) (waNil)))))) (wRet (wC (.bool false))) (wNext)) (wFor (.nm 6) (wiSeq (wTup (waCons (wVar 4) (waCons (wVar 5) (waNil))))) (wIfS (wtNot (wB (wChain wLeI wLeI (w1 wNegI (wC (.int 2))) (wCB bSumA (waCons (wLc (.tp [7, 8]) [7, 8] (wiEnumA (wVar 6)) (wtYes) (wIf (wB (w2 wEq (w2 wMod (wCB bInt (waCons (wVar 7) (waNil))) (wC (.int 2))) (wC (.int 0)))) (wVar 8) (w1 wNegI (wVar 8)))) (waNil))) (wC (.int 2))))) (wRet (wC (.bool false))) (wNext)))))))) (wRet (wC (.bool true)))))
local macro_rules | `(tactic| walk_at "u") => `(tactic| fail)
local macro_rules | `(tactic| walk_at "sp") => `(tactic| first | with_reducible apply R.shp_tabT | with_reducible apply R.shp_tabL | with_reducible apply R.shp_intsT | with_reducible apply R.shp_intsL | with_reducible apply R.shp_prsT | with_reducible apply R.shp_prsL | with_reducible apply R.shp_ti | with_reducible apply R.shp_li | (simp; done))
local macro_rules | `(tactic| walk_at "w1") => `(tactic| first
  | with_reducible refine R.stp ?_
  | with_reducible refine R.Sd.mk ?_ ?_
  | ((with_reducible refine R.ite_q ?_ ?_) <;> intro)
  | (with_reducible refine R.ite_nqE (by walk_at "sp") ?_ ?_)
  | (with_reducible refine R.ite_nqL ?_ ?_)
  | ((with_reducible apply R.ite_t); decide)
  | ((with_reducible apply R.ite_f); decide)
  | ((with_reducible refine R.ite_d ?_ ?_) <;> intro <;> (try (exfalso; omega)))
  | ((with_reducible refine R.ite_nd ?_ ?_) <;> intro <;> (try (exfalso; omega)))
  | ((with_reducible refine R.ite_tW ?_ ?_) <;> intro <;> (try (exfalso; omega)))
  | ((with_reducible refine R.ite_ntW ?_ ?_) <;> intro <;> (try (exfalso; omega)))
  | ((with_reducible apply R.ite_t); exact rfl)
  | ((with_reducible apply R.ite_f); exact rfl)
  | ((with_reducible refine R.ite_b ?_ ?_) <;> intro)
  | ((with_reducible apply R.wIx_i); exact rfl; exact rfl)
  | ((with_reducible apply R.callK_v); exact rfl; exact rfl; exact rfl; (first | exact Or.inl rfl | exact Or.inr rfl))
  | ((with_reducible show ∀ _ : Int, 0 ≤ _ → _ < _ → _); intro _ _ _)
  | ((with_reducible show ∀ _ _ : Int, R.okB _ _ → _); intro _ _ _)
  | walk_at "c")
local macro_rules | `(tactic| walk_at "c") => `(tactic| first
  | ((with_reducible refine R.le_big ?_); first | (simp only [List.length_cons, List.length_nil, Nat.zero_add, Nat.reduceAdd]; decide) | decide | omega | (simp; done) | (simp; omega))
  | ((with_reducible refine R.lt_big ?_); first | decide | omega | (simp; done) | (simp; omega))
  | ((with_reducible show R.Prom.pre _ _); first | exact True.intro | (simp; done) | (simp; omega) | ((repeat' (first | with_reducible assumption | apply And.intro)) <;> first | with_reducible assumption | omega | (simp; done) | (simp; omega) | assumption | decide))
  | ((with_reducible show R.nd2 _ = true); first | exact rfl | (with_reducible assumption))
  | ((with_reducible show R.tB _ = true); first | (with_reducible assumption) | exact R.tB_ok (by with_reducible assumption) | decide)
  | ((with_reducible show R.tW _ _ _ = true); first | (with_reducible assumption) | (simp only [R.tW, Bool.and_eq_true, decide_eq_true_eq]; omega))
  | ((with_reducible show R.Shp _ _ ∧ R.Shp _ _); refine ⟨?_, ?_⟩ <;> walk_at "sp")
  | ((with_reducible show (_ : Nat) ≤ _); omega)
  | ((with_reducible show (_ : Int) ≤ _); first | decide | omega)
  | ((with_reducible show (_ : PyData) = _); with_reducible rfl)
  | ((with_reducible show (_ : Int) ≠ _); first | decide | omega)
  | ((with_reducible show R.MulOk _ _); first | exact Or.inl (by with_reducible assumption) | exact Or.inr (Or.inl (by with_reducible assumption)) | exact Or.inl ⟨by decide, by decide⟩ | exact Or.inr (Or.inl ⟨by decide, by decide⟩) | exact Or.inl ⟨by omega, by omega⟩ | exact Or.inr (Or.inl ⟨by omega, by omega⟩) | (apply R.MulOk.bd; walk_at "b"; walk_at "b"; first | decide | omega))
  | ((with_reducible show _ ≤ _ ∧ _); first | decide | omega | (simp; omega))
  | ((with_reducible show _ < _ ∧ _); first | decide | omega | (simp; omega))
  | ((with_reducible show _ ≠ _ ∧ _); first | decide | omega | (refine ⟨?_, ?_⟩ <;> (simp; done)) | (simp; omega))
  | ((with_reducible show _ = true ∧ R.flatD _ = true ∧ _); simp; done)
  | ((with_reducible show R.plainD _ = true ∧ _); simp; done)
  | ((with_reducible show _ ∧ _); ((repeat' (first | with_reducible assumption | with_reducible apply And.intro)) <;> first | with_reducible assumption | omega | decide))
  | walk_at "u"
  | ((with_reducible show ∃ _, _); (repeat with_reducible apply Exists.intro); with_reducible rfl)
  | ((with_reducible show R.noOw _ _); simp; done)
  | ((with_reducible show R.noDict _ = true); first | exact rfl | (with_reducible assumption))
  | ((with_reducible show ∀ y ∈ _, R.W.plain y = true); simp; done))
local macro_rules | `(tactic| walk_at "w") => `(tactic| (repeat' walk_at "w1"))
local macro_rules | `(tactic| walk_at "s") => `(tactic| all_goals try (first | (simp; done) | (simp; omega) | (simp_all; done) | (simp_all; omega)))
local macro_rules | `(tactic| walk_at "o") => `(tactic| simp only [R.startR, R.lawR, R.Prom.out, List.map_cons, List.map_nil, R.W.en, List.length_cons, List.length_nil, Nat.zero_add, Nat.reduceAdd, Nat.reduceSub, List.replicate_succ, List.replicate_zero, List.cons_append, List.nil_append])
local macro_rules | `(tactic| walk_at "b") => `(tactic| (repeat' first | with_reducible assumption | with_reducible exact R.lu_bd ‹R.okB _ _› _ | with_reducible exact R.Bd.pow (R.okB.bq ‹R.okB _ _›) _ | with_reducible exact R.okB.bp ‹R.okB _ _› | with_reducible exact R.okB.bq ‹R.okB _ _› | with_reducible apply R.Bd.mul | with_reducible apply R.Bd.add | with_reducible apply R.Bd.sub | with_reducible apply R.Bd.neg | (refine R.bd_of (k := 8) ?_; decide) | (refine R.bd_of (k := 64) ?_; first | decide | omega)))
local macro_rules | `(tactic| walk_at "lg") => `(tactic| (apply R.Bd.log; walk_at "b"; first | decide | omega))
local macro_rules | `(tactic| walk_at "sh") => `(tactic| (refine ⟨?_, ?_, ?_⟩; rotate_left; (focus (simp; done)); (focus (first | (simp; done) | (simp; omega) | decide)); simp only [R.shOks, R.shOk, Bool.and_eq_true, decide_eq_true_eq, and_true, Bool.and_true]; (repeat' apply And.intro) <;> walk_at "lg"))
local macro_rules | `(tactic| walk_at "r") => `(tactic| focus (first | walk_at "lg" | walk_at "sh" | (rename_i h; exact absurd rfl h)))
local macro_rules | `(tactic| walk_at "nd") => `(tactic| (repeat' first | with_reducible apply R.nd_i | with_reducible apply R.nd_b | with_reducible apply R.nd_n | with_reducible apply R.nd_s | with_reducible apply R.nd_t (m := 19) | with_reducible apply R.nd_t (m := 18) | with_reducible apply R.nd_t (m := 17) | with_reducible apply R.nd_t (m := 16) | with_reducible apply R.nd_l (m := 19) | with_reducible apply R.nd_l (m := 18) | with_reducible apply R.nd_l (m := 17) | with_reducible apply R.nd_l (m := 16) | with_reducible apply R.nds_n | with_reducible apply R.nds_tab | with_reducible apply R.nds_ints | with_reducible apply R.nds_prs | with_reducible apply R.nds_c | with_reducible apply R.nds_app | with_reducible apply R.nds_map | intro))
local macro_rules | `(tactic| walk_at "rk") => `(tactic| (apply R.reprOk_by; rotate_left; (focus (walk_at "nd")); (focus (first | (simp [R.shx, R.shxs]; done) | (simp [R.shx, R.shxs]; omega) | skip)); (repeat' first | with_reducible apply R.rok_t | with_reducible apply R.rok_l | with_reducible apply R.roks_n | with_reducible apply R.roks_tab | with_reducible apply R.roks_ints | with_reducible apply R.roks_prs | with_reducible apply R.roks_c | with_reducible apply R.roks_app | with_reducible apply R.rok_n | with_reducible apply R.rok_b | with_reducible apply R.rok_i | (with_reducible show R.rok (PyData.str _) = true; decide +kernel))))
theorem pure_lots_on_line : ∀ xs : List W, xs.length = S_lots_on_line.n → (∀ y ∈ xs, y.isArg) → S_lots_on_line.pre xs → w_lots_on_line (startR N_lots_on_line xs) (S_lots_on_line.out xs) := by
  intro xs hl ha hp
  simp only [S_lots_on_line] at hp
  split at hp
  · rename_i n
    obtain ⟨h1, h2⟩ := hp
    unfold w_lots_on_line N_lots_on_line
    walk_at "o"
    walk_at "w"
    simp only [S_lots_on_line, ints_asI, prs_asP]
  · exact hp.elim
theorem pure_lots_on_round : ∀ xs : List W, xs.length = S_lots_on_round.n → (∀ y ∈ xs, y.isArg) → S_lots_on_round.pre xs → w_lots_on_round (startR N_lots_on_round xs) (S_lots_on_round.out xs) := by
  intro xs hl ha hp
  simp only [S_lots_on_round] at hp
  split at hp
  · rename_i n
    obtain ⟨h1, h2⟩ := hp
    unfold w_lots_on_round N_lots_on_round
    walk_at "o"
    walk_at "w"
    simp only [S_lots_on_round, ints_asI, prs_asP]
  · exact hp.elim
theorem pure_ways_to_take : ∀ xs : List W, xs.length = S_ways_to_take.n → (∀ y ∈ xs, y.isArg) → S_ways_to_take.pre xs → w_ways_to_take (startR N_ways_to_take xs) (S_ways_to_take.out xs) := by
  intro xs hl ha hp
  simp only [S_ways_to_take] at hp
  split at hp
  · rename_i m s
    obtain ⟨h1, h2, h3, h4⟩ := hp
    unfold w_ways_to_take N_ways_to_take
    walk_at "o"
    walk_at "w"
    refine forK_i (fun i ρ => ∃ a, ρ = [some (.im (.int m)), some (.im (.int s)), some (.im (.int (waysF m i))), a]) ⟨_, rfl⟩ ?_ ?_
    · rintro i d ρ hd ⟨a, rfl⟩
      obtain ⟨hi, rfl⟩ := rangeD_at hd
      clear hd
      walk_at "w"
      · exact ⟨by omega, Bd.log2_9000 (bd_of ⟨by omega, by omega⟩)⟩
      · exact ⟨some (.im (.int (0 + (i : Int)))), by
          rw [show waysF m (i + 1) = (waysF m i * (m - (0 + (i : Int)))).fdiv (0 + (i : Int) + 1) by rw [Int.zero_add]; rfl]⟩
    · rintro ρ ⟨a, rfl⟩
      walk_at "w"
      simp only [S_ways_to_take, ints_asI, prs_asP]
      simp
  · exact hp.elim
theorem pure_sized_line : ∀ xs : List W, xs.length = S_sized_line.n → (∀ y ∈ xs, y.isArg) → S_sized_line.pre xs → w_sized_line (startR N_sized_line xs) (S_sized_line.out xs) := by
  intro xs hl ha hp
  simp only [S_sized_line] at hp
  split at hp
  · rename_i n k
    obtain ⟨h1, h2, h3, h4⟩ := hp
    unfold w_sized_line N_sized_line
    walk_at "o"
    walk_at "w"
    · rename_i h5
      show _ = _
      rw [lineF, if_pos h5]
    · rename_i h5
      show _ = _
      rw [lineF, if_neg h5]
  · exact hp.elim
theorem pure_lots_by_size : ∀ xs : List W, xs.length = S_lots_by_size.n → (∀ y ∈ xs, y.isArg) → S_lots_by_size.pre xs → w_lots_by_size (startR N_lots_by_size xs) (S_lots_by_size.out xs) := by
  intro xs hl ha hp
  simp only [S_lots_by_size] at hp
  split at hp
  · rename_i n r
    obtain ⟨h1, h2, h3⟩ := hp
    unfold w_lots_by_size N_lots_by_size
    walk_at "o"
    walk_at "w"
    · rename_i h4
      have := h3 h4
      simp only [tW, Bool.and_eq_true, decide_eq_true_eq]
      omega
    · rename_i h4
      have h5 := h3 h4
      subst h4
      refine forK_i (fun i ρ => ∃ a, ρ = [some (.im (.int n)), some (.im (.bool true)), some (.ow (tab (sizeF n true) (i + 1))), a]) ⟨_, rfl⟩ ?_ ?_
      · rintro i d ρ hd ⟨a, rfl⟩
        obtain ⟨hi, rfl⟩ := rangeD_at hd
        clear hd
        walk_at "w"
        have e : sizeF n true (i + 1) = lineF (n - 1) (1 + (i : Int)) + lineF (n - 3) (1 + (i : Int) - 1) := by
          rw [sizeF, if_pos rfl, if_neg (by omega)]
          simp [Int.add_comm]
        rw [← e, ← tab_succ]
        exact ⟨_, rfl⟩
      · rintro ρ ⟨a, rfl⟩
        have e : (rangeD 1 (n + 1 - 1).toNat).length = n.toNat := by rw [rangeD_len]; omega
        rw [e]
        walk_at "w"
        refine wWhile_k (fun j ρ => 1 ≤ j ∧ trimN (sizeF n true) j = trimN (sizeF n true) (n.toNat + 1) ∧ ρ = [some (.im (.int n)), some (.im (.bool true)), some (.ow (tab (sizeF n true) j)), a]) (n.toNat + 1) ⟨by omega, rfl, rfl⟩ ?_
        rintro j ρ ⟨j1, j2, rfl⟩
        walk_at "w"
        · rename_i h5
          exact fun z => by have := congrArg List.length z; rw [tab_len] at this; simp at this; omega
        · rename_i h5
          have h6 : j ≠ 1 := fun z => by
            subst z
            rw [show 1 - 1 = 0 from rfl, size_0 n true (by omega)] at h5
            exact absurd h5 (by decide)
          exact ⟨j - 1, by omega, by omega, (trim_step j1 h5).symm.trans j2, rfl⟩
        · rename_i h5
          rw [trim_end j1 h5] at j2
          show _ = _
          rw [← j2]
    · rename_i h4
      subst h4
      rw [range_tab]
      refine wLcK_gen (sizeF n false) (by simp) (le_big (by omega)) (fun i hi k hk => ?_) ?_
      · walk_at "w"
        have e : sizeF n false i = lineF n (0 + (i : Int)) := by
          rw [sizeF, if_neg (by decide), Int.zero_add]
        rw [← e]
        exact hk
      · walk_at "w"
        refine wWhile_k (fun j ρ => 1 ≤ j ∧ trimN (sizeF n false) j = trimN (sizeF n false) (n.toNat + 1) ∧ ρ = [some (.im (.int n)), some (.im (.bool false)), some (.ow (tab (sizeF n false) j)), none]) (n.toNat + 1) ⟨by omega, rfl, ?_⟩ ?_
        · rw [show (n + 1).toNat = n.toNat + 1 by omega]
        rintro j ρ ⟨j1, j2, rfl⟩
        walk_at "w"
        · rename_i h5
          exact fun z => by have := congrArg List.length z; rw [tab_len] at this; simp at this; omega
        · rename_i h5
          have h6 : j ≠ 1 := fun z => by
            subst z
            rw [show 1 - 1 = 0 from rfl, size_0 n false (by omega)] at h5
            exact absurd h5 (by decide)
          exact ⟨j - 1, by omega, by omega, (trim_step j1 h5).symm.trans j2, rfl⟩
        · rename_i h5
          rw [trim_end j1 h5] at j2
          show _ = _
          rw [← j2]
  · exact hp.elim
theorem pure__law_on_line : ∀ xs : List W, xs.length = S__law_on_line.n → (∀ y ∈ xs, y.isArg) → S__law_on_line.pre xs → w__law_on_line (startR N__law_on_line xs) (S__law_on_line.out xs) := by
  intro xs hl ha hp
  simp only [S__law_on_line] at hp
  split at hp
  · rename_i n
    obtain ⟨h1, h2⟩ := hp
    unfold w__law_on_line N__law_on_line
    walk_at "o"
    walk_at "w"
    refine forK_i (fun i ρ => ∃ a b, ρ = [some (.im (.int n)), some (.im (.list ((onL i).1.map .int))), some (.im (.list ((onL i).2.map .int))), a, b, none, none, none]) ⟨_, _, rfl⟩ ?_ ?_
    · rintro i d ρ hd ⟨a, b, rfl⟩
      obtain ⟨hi, rfl⟩ := rangeD_at hd
      clear hd
      obtain ⟨l1, l2⟩ := onL_len i
      walk_at "w"
      refine wLcK_map addD (by simp) (le_big (by simp; omega)) (fun d hd k hk => ?_) ?_
      · obtain ⟨a, b, rfl⟩ := zip_in hd
        walk_at "w"
        exact hk
      · rw [zip_add]
        walk_at "w"
        rw [show ([PyData.int 0] ++ (onL i).1.map PyData.int) = (onL (i + 1)).2.map PyData.int from rfl]
        rw [show ((List.zipWith (· + ·) (onL i).1 (onL i).2).map PyData.int ++ [PyData.int 0]) = (onL (i + 1)).1.map PyData.int by rw [onL, List.map_append]; rfl]
        exact ⟨_, _, rfl⟩
    · rintro ρ ⟨a, b, rfl⟩
      have e : (rangeD 0 n.toNat).length = n.toNat := rangeD_len
      rw [e]
      obtain ⟨l1, l2⟩ := onL_len n.toNat
      walk_at "w"
      refine wLcK_map addD (by simp) (le_big (by simp; omega)) (fun d hd k hk => ?_) ?_
      · obtain ⟨a, b, rfl⟩ := zip_in hd
        walk_at "w"
        exact hk
      · rw [zip_add]
        walk_at "w"
        rw [show List.zipWith (· + ·) (onL n.toNat).1 (onL n.toNat).2 = onRaw n.toNat from rfl, map_tab (onRaw n.toNat)]
        have l3 := onRaw_len n.toNat
        have f0 := raw_first n.toNat (by omega)
        refine wWhile_k (fun j ρ => 1 ≤ j ∧ j ≤ (onRaw n.toNat).length ∧ trimN (fun i => (onRaw n.toNat).getD i 0) j = trimN (fun i => (onRaw n.toNat).getD i 0) (onRaw n.toNat).length ∧ ρ = [some (.im (.int n)), some (.im (.list ((onL n.toNat).1.map .int))), some (.im (.list ((onL n.toNat).2.map .int))), a, b, some (.ow (tab (fun i => (onRaw n.toNat).getD i 0) j)), none, none]) (onRaw n.toNat).length ⟨by omega, Nat.le_refl _, rfl, rfl⟩ ?_
        rintro j ρ ⟨j1, j2, j3, rfl⟩
        walk_at "w"
        · rename_i h5
          exact fun z => by have := congrArg List.length z; rw [tab_len] at this; simp at this; omega
        · rename_i h5
          have h6 : j ≠ 1 := fun z => by
            subst z
            have h5 : (onRaw n.toNat).getD 0 0 = 0 := h5
            rw [f0] at h5
            exact absurd h5 (by decide)
          exact ⟨j - 1, by omega, by omega, by omega, (trim_step j1 h5).symm.trans j3, rfl⟩
        · rename_i h5
          rw [trim_end j1 h5] at j3
          show W.fr _ = W.fr _
          rw [onLine, ← j3, List.map_take, map_tab (onRaw n.toNat), tab_take, Nat.min_eq_left j2]
  · exact hp.elim
theorem pure__law_on_round : ∀ xs : List W, xs.length = S__law_on_round.n → (∀ y ∈ xs, y.isArg) → S__law_on_round.pre xs → w__law_on_round (startR N__law_on_round xs) (S__law_on_round.out xs) := by
  intro xs hl ha hp
  simp only [S__law_on_round] at hp
  split at hp
  · rename_i n
    obtain ⟨h1, h2⟩ := hp
    unfold w__law_on_round N__law_on_round
    walk_at "o"
    walk_at "w"
    all_goals
      have e1 : (n - 1).toNat = n.toNat - 1 := by omega
      have e3 : (n - 3).toNat = n.toNat - 3 := by omega
      have l1 := onLine_len (n.toNat - 1)
      have l3 := onLine_len (n.toNat - 3)
      have ew : (if ((0 + 1 + (onLine (n.toNat - 3)).length : Nat) : Int) > ((onLine (n.toNat - 1)).length : Int) then ((0 + 1 + (onLine (n.toNat - 3)).length : Nat) : Int) else ((onLine (n.toNat - 1)).length : Int)) = ((max (onLine (n.toNat - 1)).length (1 + (onLine (n.toNat - 3)).length) : Nat) : Int) := by split <;> omega
      have eR : onRound n.toNat = List.zipWith (· + ·) (padTo (max (onLine (n.toNat - 1)).length (1 + (onLine (n.toNat - 3)).length)) (onLine (n.toNat - 1))) (padTo (max (onLine (n.toNat - 1)).length (1 + (onLine (n.toNat - 3)).length)) (0 :: onLine (n.toNat - 3))) := by
        rw [onRound, List.length_cons, Nat.add_comm 1]
      try simp only [e1, e3, ew]
      generalize onLine (n.toNat - 1) = A at *
      generalize onLine (n.toNat - 3) = B at *
      have eW : max A.length (1 + B.length) ≤ 62 := by omega
      have w1 : A.length ≤ max A.length (1 + B.length) := by omega
      have w2 : 1 + B.length ≤ max A.length (1 + B.length) := by omega
      generalize max A.length (1 + B.length) = U at *
      have u1 : ((U : Int) - (A.length : Int)).toNat = U - A.length := by omega
      have u2 : ((U : Int) - ((0 + 1 + B.length : Nat) : Int)).toNat = U - (0 :: B).length := by rw [List.length_cons]; omega
      try simp only [u1, u2, rep_flat]
    all_goals first | (refine le_big ?_; simp; omega) | (refine ⟨le_big ?_, ?_, ?_⟩ <;> (first | omega | (simp; omega))) | skip
    rw [show (A.map PyData.int ++ (List.replicate (U - A.length) 0).map PyData.int) = (padTo U A).map PyData.int by rw [padTo, List.map_append], show ([PyData.int 0] ++ B.map PyData.int ++ (List.replicate (U - (0 :: B).length) 0).map PyData.int) = (padTo U (0 :: B)).map PyData.int by rw [padTo, List.map_append]; rfl]
    refine wLcK_map addD (by simp) (le_big (by rw [zipD_len, List.length_map]; simp only [padTo, List.length_append, List.length_replicate]; omega)) (fun d hd k hk => ?_) ?_
    · obtain ⟨a, b, rfl⟩ := zip_in hd
      walk_at "w"
      exact hk
    · rw [zip_add, ← eR]
      walk_at "w"
      rfl
  · exact hp.elim
theorem pure_law : w_law (lawR N_law) { nx := fun _ => False, rt := fun z => z = .d (.bool true) } := by
  unfold w_law N_law
  walk_at "o"
  walk_at "w"
  · have e1 : tab (sizeF 1 false) (trimN (sizeF 1 false) (Int.toNat 1 + 1)) = [.int 1, .int 1] := rfl
    have e3 : tab (sizeF 3 false) (trimN (sizeF 3 false) (Int.toNat 3 + 1)) = [.int 1, .int 3, .int 1] := rfl
    have e5 : tab (sizeF 5 false) (trimN (sizeF 5 false) (Int.toNat 5 + 1)) = [.int 1, .int 5, .int 6, .int 1] := rfl
    rw [e1, e3, e5]
    simp
  · rfl
  · have e3 : tab (sizeF 3 true) (trimN (sizeF 3 true) (Int.toNat 3 + 1)) = [.int 1, .int 3] := rfl
    have e5 : tab (sizeF 4 true) (trimN (sizeF 4 true) (Int.toNat 4 + 1)) = [.int 1, .int 4, .int 2] := rfl
    rw [e3, e5]
    simp
  · rfl
  · refine forK_i (fun _ ρ => ∃ a0 a2 a3 a4 a5 a6, ρ = [a0, some .bag, a2, a3, a4, a5, a6, none, none]) ⟨_, _, _, _, _, _, rfl⟩ ?_ ?_
    rotate_left
    · rintro ρ ⟨a0, a2, a3, a4, a5, a6, rfl⟩
      walk_at "w"
      rfl
    rintro i d ρ hd ⟨a0, a2, a3, a4, a5, a6, rfl⟩
    walk_at "w"
    rename_i m h1 h2
    intro d hd
    obtain ⟨n, rfl, hn1, hn2⟩ : ∃ n : Nat, d = .int n ∧ 3 ≤ n ∧ n ≤ 60 := by
      simp only [List.mem_cons, List.mem_nil_iff, or_false] at hd
      rcases hd with rfl | rfl | rfl | rfl | rfl
      · exact ⟨3, rfl, by omega, by omega⟩
      · exact ⟨4, rfl, by omega, by omega⟩
      · exact ⟨60, rfl, by omega, by omega⟩
      · exact ⟨59, rfl, by omega, by omega⟩
      · exact ⟨(3 + m).toNat, by congr 1; omega, by omega, by omega⟩
    clear hd
    obtain ⟨f1, f2, f3, f4, f5, f6⟩ := size_fact n (by omega) hn1
    obtain ⟨g1, g2, g3, g4⟩ := size_small n (by omega)
    have eN : (n : Int).toNat = n := Int.toNat_natCast n
    have t1 : tab (sizeF n false) (trimN (sizeF n false) (n + 1)) = (sizes n false).map PyData.int := by rw [tab_ints]; rfl
    have t2 : tab (sizeF n true) (trimN (sizeF n true) (n + 1)) = (sizes n true).map PyData.int := by rw [tab_ints]; rfl
    walk_at "w"
    · rw [eN, t1, t2]
      walk_at "rk"
      · intro a ha
        have h : Bd a 64 := g1 a ha
        exact h.mono (by decide)
      · intro a ha
        have h : Bd a 64 := g2 a ha
        exact h.mono (by decide)
    · rw [eN, t1, t2, f1, f2]
    · rw [eN, t1]
      exact isI_map _
    · rw [eN, t2]
      exact isI_map _
    · rw [eN, t1, t2, map_asI, map_asI, f3, f4]
      rfl
    · have a1 : -2 ≤ ((tab (alt (sizeF n false)) (trimN (sizeF n false) ((n : Int).toNat + 1))).map asI).sum ∧ ((tab (alt (sizeF n false)) (trimN (sizeF n false) ((n : Int).toNat + 1))).map asI).sum ≤ 2 := by
        rw [eN, alt_sum]; exact f5
      have a2 : -2 ≤ ((tab (alt (sizeF n true)) (trimN (sizeF n true) ((n : Int).toNat + 1))).map asI).sum ∧ ((tab (alt (sizeF n true)) (trimN (sizeF n true) ((n : Int).toNat + 1))).map asI).sum ≤ 2 := by
        rw [eN, alt_sum]; exact f6
      refine forK_run ?_
      walk_at "w"
      rw [enum_tab]
      refine wLcK_gen (alt (sizeF n false)) (by simp) (le_big (Nat.le_trans (trimN_le _ _) (by omega))) (fun i hi k hk => ?_) ?_
      · walk_at "w"
        · rename_i h4
          rw [alt, if_pos (par_of h4)] at hk
          exact hk
        · rename_i h4
          rw [alt, if_neg (par_no h4)] at hk
          exact hk
      walk_at "w"
      · rw [tab_ints]; exact isI_map _
      · rw [enum_tab]
        refine wLcK_gen (alt (sizeF n true)) (by simp) (le_big (Nat.le_trans (trimN_le _ _) (by omega))) (fun i hi k hk => ?_) ?_
        · walk_at "w"
          · rename_i h4
            rw [alt, if_pos (par_of h4)] at hk
            exact hk
          · rename_i h4
            rw [alt, if_neg (par_no h4)] at hk
            exact hk
        walk_at "w"
        · rw [tab_ints]; exact isI_map _

set_option maxHeartbeats 0
def top (i : Nat) : Stmt := PySem.Challenge.pw_rankrows_k38_whole_lots_by_their_size.main.body.getD i (.Pass ⟨0, 0, 0, 0⟩)
def dd (i : Nat) (n y : Str) : He.DefD := ⟨(n, none), y, y, defArgs (top i), defBody (top i), defScope (top i), [], []⟩
def fn : List He.DefD := [dd 5 "is_integer" "is_integer", dd 6 "is_within" "is_within", dd 7 "check_number" "check_number", dd 8 "row_by" "row_by", dd 9 "raw_u" "raw_u", dd 10 "raw_v" "raw_v", dd 16 "lots_on_line" "lots_on_line", dd 17 "lots_on_round" "lots_on_round", dd 18 "ways_to_take" "ways_to_take", dd 19 "sized_line" "sized_line", dd 20 "lots_by_size" "lots_by_size", dd 22 "_law_bag" "_law_bag", dd 23 "_law_pick" "_law_pick", dd 24 "_law_some" "_law_some", dd 25 "_law_on_line" "_law_on_line", dd 26 "_law_on_round" "_law_on_round", dd 27 "law" "law"]
def fa : List He.Fa := [.glo "RankError", .exc "RankError", .glo "NoNumber", .exc "NoNumber", .glo "NoFlag", .exc "NoFlag", .glo "is_integer", .glo "is_within", .glo "check_number", .glo "row_by", .glo "raw_u", .glo "raw_v", .glo "lots_on_line", .glo "lots_on_round", .glo "ways_to_take", .glo "sized_line", .glo "lots_by_size", .glo "_law_bag", .glo "_law_pick", .glo "_law_some", .glo "_law_on_line", .glo "_law_on_round", .glo "law", .free "abs", .free "bool", .free "enumerate", .free "int", .free "isinstance", .free "len", .free "max", .free "range", .free "repr", .free "sum", .free "tuple", .free "zip"]
def fx : List (Str × R.D) := [("MOST_TREES", .int 200), ("BASE", .tuple [.int 1, .int (-1)]), ("LEAST_WHEEL", .int 3), ("MOST_SIZED", .int 60)]
abbrev RR : PySem.W.OpenRow := PySem.W.OpenLaw.row PySem.Challenge.rw_rankrows_k38_whole_lots_by_their_size
abbrev hk : PySem.W.Hook := hookR 4 fx fa fn
def ob (s : PySem.W.SharedT) : AlR := obsR 4 fx fa fn (HandSHeadRun.getT s)
theorem ob_eq (s : PySem.W.SharedT) : ob s = hk.obs s.abs := obsR_eq (HandSHeadRun.getT_eq s)
theorem run (w : World) : HandSHeadRun.RunEq RR (PySem.W.view RR.prog [27]) hk ob 4000 ["RankError", "NoNumber", "NoFlag", "is_integer", "is_within", "check_number", "row_by", "raw_u", "raw_v", "MOST_TREES", "MOST_SIZED", "LEAST_WHEEL", "BASE", "lots_on_line", "lots_on_round", "ways_to_take", "sized_line", "lots_by_size", "_law_bag", "_law_pick", "_law_some", "_law_on_line", "_law_on_round"] w := by
  intro os
  kernel_rfl
abbrev PP : Program := (PySem.Challenge.rw_rankrows_k38_whole_lots_by_their_size).prog
section
variable {w : World} {K : PySem.W.Frag} {mg : Str → Option Value} {base : Heap}
theorem sc_is_integer : FnScope N_is_integer ["thing"] (defScope (top 5)) := ⟨rfl, rfl, rfl, by decide +kernel, rfl, by decide +kernel, by decide +kernel⟩
theorem nd_is_integer : N_is_integer.Nodup := by decide
theorem ok_is_integer (e : Ev fx fa fn K mg base) : Fn PP w K mg base 1 "is_integer" ["thing"] (spW K (He.ga K) S_is_integer) := by
  have nd := nd_is_integer
  refine Fn.of (st := top 5) e 0 6 rfl rfl (fun _ _ _ _ _ _ us hl => match us, hl with | [_], _ => rfl) fun fd F => fn_sim (wf := w_is_integer) F sc_is_integer rfl (fun cdv A outer s H E g hr => ?_) pure_is_integer
  have hp := passes_c (P := PP) (w := w) (K := K) (mg := mg) (base := base) (N := N_is_integer) (x := "is_integer") (sc := defScope (top 5)) (f := He.ga K "is_integer") (cdv := cdv) (A := A) (outer := outer) (s := s) (H := H) (E := E)
  exact ss_one (s_ret (sim_and (sim_isi (by decide) rfl (e.f 27) rfl rfl (e.f 26) rfl (sim_var 0)) (sim_one (sim_not (sim_isi (by decide) rfl (e.f 27) rfl rfl (e.f 24) rfl (sim_var 0))))))
theorem sc_is_within : FnScope N_is_within ["thing", "low", "high"] (defScope (top 6)) := ⟨rfl, rfl, rfl, by decide +kernel, rfl, by decide +kernel, by decide +kernel⟩
theorem nd_is_within : N_is_within.Nodup := by decide
theorem ok_is_within (e : Ev fx fa fn K mg base) : Fn PP w K mg base 2 "is_within" ["thing", "low", "high"] (spW K (He.ga K) S_is_within) := by
  have nd := nd_is_within
  refine Fn.of (st := top 6) e 1 7 rfl rfl (fun _ _ _ _ _ _ us hl => match us, hl with | [_, _, _], _ => rfl) fun fd F => fn_sim (wf := w_is_within) F sc_is_within rfl (fun cdv A outer s H E g hr => ?_) pure_is_within
  have hp := passes_c (P := PP) (w := w) (K := K) (mg := mg) (base := base) (N := N_is_within) (x := "is_within") (sc := defScope (top 6)) (f := He.ga K "is_within") (cdv := cdv) (A := A) (outer := outer) (s := s) (H := H) (E := E)
  exact ss_one (s_ret (sim_and (sim_callF (ok_is_integer e) g hr (by decide) rfl (sima_cons (sim_var 0) (sima_nil))) (sim_one (sim_chain op_le r_leI op_le r_leI (sim_var 1) (sim_var 0) (sim_var 2)))))
theorem sc_check_number : FnScope N_check_number ["thing", "low", "high"] (defScope (top 7)) := ⟨rfl, rfl, rfl, by decide +kernel, rfl, by decide +kernel, by decide +kernel⟩
theorem nd_check_number : N_check_number.Nodup := by decide
theorem ok_check_number (e : Ev fx fa fn K mg base) : Fn PP w K mg base 3 "check_number" ["thing", "low", "high"] (spW K (He.ga K) S_check_number) := by
  have nd := nd_check_number
  refine Fn.of (st := top 7) e 2 8 rfl rfl (fun _ _ _ _ _ _ us hl => match us, hl with | [_, _, _], _ => rfl) fun fd F => fn_sim (wf := w_check_number) F sc_check_number rfl (fun cdv A outer s H E g hr => ?_) pure_check_number
  have hp := passes_c (P := PP) (w := w) (K := K) (mg := mg) (base := base) (N := N_check_number) (x := "check_number") (sc := defScope (top 7)) (f := He.ga K "check_number") (cdv := cdv) (A := A) (outer := outer) (s := s) (H := H) (E := E)
  exact ss_one (s_if (simt_not (simt_val (sim_callF (ok_is_within e) g hr (by decide) rfl (sima_cons (sim_var 0) (sima_cons (sim_var 1) (sima_cons (sim_var 2) (sima_nil))))))) (ss_one (s_raise rfl rfl (e.g 2) (e.x 3))) (ss_nil))
theorem sc_row_by : FnScope N_row_by ["base", "first", "second", "many"] (defScope (top 8)) := ⟨rfl, rfl, rfl, by decide +kernel, rfl, by decide +kernel, by decide +kernel⟩
theorem nd_row_by : N_row_by.Nodup := by decide
theorem ok_row_by (e : Ev fx fa fn K mg base) : Fn PP w K mg base 4 "row_by" ["base", "first", "second", "many"] (spW K (He.ga K) S_row_by) := by
  have nd := nd_row_by
  refine Fn.of (st := top 8) e 3 9 rfl rfl (fun _ _ _ _ _ _ us hl => match us, hl with | [_, _, _, _], _ => rfl) fun fd F => fn_sim (wf := w_row_by) F sc_row_by rfl (fun cdv A outer s H E g hr => ?_) pure_row_by
  have hp := passes_c (P := PP) (w := w) (K := K) (mg := mg) (base := base) (N := N_row_by) (x := "row_by") (sc := defScope (top 8)) (f := He.ga K "row_by") (cdv := cdv) (A := A) (outer := outer) (s := s) (H := H) (E := E)
  exact ss_cons (s_asgP (pt := (.tp [4, 5])) (pg_tup rfl (pgs_cons (pg_name nd rfl (by first | exact Or.inl rfl | exact Or.inr rfl)) (pgs_cons (pg_name nd rfl (by first | exact Or.inl rfl | exact Or.inr rfl)) pgs_nil))) (sim_var 0)) (ss_cons (s_own (i := 6) nd rfl (by first | exact Or.inl rfl | exact Or.inr rfl) (sim_lst (sima_cons (sim_var 1) (sima_cons (sim_var 2) (sima_nil))))) (ss_cons (s_while hp (simt_cmp op_lt r_ltI (sim_callB call_len c_len rfl (e.f 28) rfl (sima_cons (sim_var 6) (sima_nil))) (sim_var 3) rfl) (ss_one (s_appL 6 (sim_sub (sim_mulB (sim_var 4) (sim_ix (sim_var 6) (sim_neg (sim_int)))) (sim_mulB (sim_var 5) (sim_ix (sim_var 6) (sim_neg (sim_int)))))))) (ss_one (s_ret (sim_var 6)))))
theorem sc_raw_u : FnScope N_raw_u ["base", "n"] (defScope (top 9)) := ⟨rfl, rfl, rfl, by decide +kernel, rfl, by decide +kernel, by decide +kernel⟩
theorem nd_raw_u : N_raw_u.Nodup := by decide
theorem ok_raw_u (e : Ev fx fa fn K mg base) : Fn PP w K mg base 5 "raw_u" ["base", "n"] (spW K (He.ga K) S_raw_u) := by
  have nd := nd_raw_u
  refine Fn.of (st := top 9) e 4 10 rfl rfl (fun _ _ _ _ _ _ us hl => match us, hl with | [_, _], _ => rfl) fun fd F => fn_sim (wf := w_raw_u) F sc_raw_u rfl (fun cdv A outer s H E g hr => ?_) pure_raw_u
  have hp := passes_c (P := PP) (w := w) (K := K) (mg := mg) (base := base) (N := N_raw_u) (x := "raw_u") (sc := defScope (top 9)) (f := He.ga K "raw_u") (cdv := cdv) (A := A) (outer := outer) (s := s) (H := H) (E := E)
  exact ss_one (s_ret (sim_ix (sim_callF (ok_row_by e) g hr (by decide) rfl (sima_cons (sim_var 0) (sima_cons (sim_int) (sima_cons (sim_int) (sima_cons (sim_addA (sim_var 1) (sim_int)) (sima_nil)))))) (sim_var 1)))
theorem sc_raw_v : FnScope N_raw_v ["base", "n"] (defScope (top 10)) := ⟨rfl, rfl, rfl, by decide +kernel, rfl, by decide +kernel, by decide +kernel⟩
theorem nd_raw_v : N_raw_v.Nodup := by decide
theorem ok_raw_v (e : Ev fx fa fn K mg base) : Fn PP w K mg base 6 "raw_v" ["base", "n"] (spW K (He.ga K) S_raw_v) := by
  have nd := nd_raw_v
  refine Fn.of (st := top 10) e 5 11 rfl rfl (fun _ _ _ _ _ _ us hl => match us, hl with | [_, _], _ => rfl) fun fd F => fn_sim (wf := w_raw_v) F sc_raw_v rfl (fun cdv A outer s H E g hr => ?_) pure_raw_v
  have hp := passes_c (P := PP) (w := w) (K := K) (mg := mg) (base := base) (N := N_raw_v) (x := "raw_v") (sc := defScope (top 10)) (f := He.ga K "raw_v") (cdv := cdv) (A := A) (outer := outer) (s := s) (H := H) (E := E)
  exact ss_one (s_ret (sim_ix (sim_callF (ok_row_by e) g hr (by decide) rfl (sima_cons (sim_var 0) (sima_cons (sim_int) (sima_cons (sim_ix (sim_var 0) (sim_int)) (sima_cons (sim_addA (sim_var 1) (sim_int)) (sima_nil)))))) (sim_var 1)))
theorem sc_lots_on_line : FnScope N_lots_on_line ["many"] (defScope (top 16)) := ⟨rfl, rfl, rfl, by decide +kernel, rfl, by decide +kernel, by decide +kernel⟩
theorem nd_lots_on_line : N_lots_on_line.Nodup := by decide
theorem ok_lots_on_line (e : Ev fx fa fn K mg base) : Fn PP w K mg base 7 "lots_on_line" ["many"] (spW K (He.ga K) S_lots_on_line) := by
  have nd := nd_lots_on_line
  refine Fn.of (st := top 16) e 6 12 rfl rfl (fun _ _ _ _ _ _ us hl => match us, hl with | [_], _ => rfl) fun fd F => fn_sim (wf := w_lots_on_line) F sc_lots_on_line rfl (fun cdv A outer s H E g hr => ?_) pure_lots_on_line
  have hp := passes_c (P := PP) (w := w) (K := K) (mg := mg) (base := base) (N := N_lots_on_line) (x := "lots_on_line") (sc := defScope (top 16)) (f := He.ga K "lots_on_line") (cdv := cdv) (A := A) (outer := outer) (s := s) (H := H) (E := E)
  exact ss_cons (s_expr (sim_callF (ok_check_number e) g hr (by decide) rfl (sima_cons (sim_var 0) (sima_cons (sim_int) (sima_cons (sim_con rfl (e.i 0)) (sima_nil)))))) (ss_one (s_ret (sim_callF (ok_raw_u e) g hr (by decide) rfl (sima_cons (sim_con rfl (e.i 1)) (sima_cons (sim_addA (sim_var 0) (sim_int)) (sima_nil))))))
theorem sc_lots_on_round : FnScope N_lots_on_round ["many"] (defScope (top 17)) := ⟨rfl, rfl, rfl, by decide +kernel, rfl, by decide +kernel, by decide +kernel⟩
theorem nd_lots_on_round : N_lots_on_round.Nodup := by decide
theorem ok_lots_on_round (e : Ev fx fa fn K mg base) : Fn PP w K mg base 8 "lots_on_round" ["many"] (spW K (He.ga K) S_lots_on_round) := by
  have nd := nd_lots_on_round
  refine Fn.of (st := top 17) e 7 13 rfl rfl (fun _ _ _ _ _ _ us hl => match us, hl with | [_], _ => rfl) fun fd F => fn_sim (wf := w_lots_on_round) F sc_lots_on_round rfl (fun cdv A outer s H E g hr => ?_) pure_lots_on_round
  have hp := passes_c (P := PP) (w := w) (K := K) (mg := mg) (base := base) (N := N_lots_on_round) (x := "lots_on_round") (sc := defScope (top 17)) (f := He.ga K "lots_on_round") (cdv := cdv) (A := A) (outer := outer) (s := s) (H := H) (E := E)
  exact ss_cons (s_expr (sim_callF (ok_check_number e) g hr (by decide) rfl (sima_cons (sim_var 0) (sima_cons (sim_con rfl (e.i 2)) (sima_cons (sim_con rfl (e.i 0)) (sima_nil)))))) (ss_one (s_ret (sim_callF (ok_raw_v e) g hr (by decide) rfl (sima_cons (sim_con rfl (e.i 1)) (sima_cons (sim_var 0) (sima_nil))))))
theorem sc_ways_to_take : FnScope N_ways_to_take ["many", "size"] (defScope (top 18)) := ⟨rfl, rfl, rfl, by decide +kernel, rfl, by decide +kernel, by decide +kernel⟩
theorem nd_ways_to_take : N_ways_to_take.Nodup := by decide
theorem ok_ways_to_take (e : Ev fx fa fn K mg base) : Fn PP w K mg base 9 "ways_to_take" ["many", "size"] (spW K (He.ga K) S_ways_to_take) := by
  have nd := nd_ways_to_take
  refine Fn.of (st := top 18) e 8 14 rfl rfl (fun _ _ _ _ _ _ us hl => match us, hl with | [_, _], _ => rfl) fun fd F => fn_sim (wf := w_ways_to_take) F sc_ways_to_take rfl (fun cdv A outer s H E g hr => ?_) pure_ways_to_take
  have hp := passes_c (P := PP) (w := w) (K := K) (mg := mg) (base := base) (N := N_ways_to_take) (x := "ways_to_take") (sc := defScope (top 18)) (f := He.ga K "ways_to_take") (cdv := cdv) (A := A) (outer := outer) (s := s) (H := H) (E := E)
  exact ss_cons (s_asg (i := 2) nd rfl (by first | exact Or.inl rfl | exact Or.inr rfl) (sim_int)) (ss_cons (s_for (pt := (.nm 3)) hp rfl (si_range1 rfl (e.f 30) (sima_cons (sim_var 1) (sima_nil))) (pg_name nd rfl (by first | exact Or.inl rfl | exact Or.inr rfl)) (ss_one (s_asg (i := 2) nd rfl (by first | exact Or.inl rfl | exact Or.inr rfl) (sim_div (sim_mulB (sim_var 2) (sim_sub (sim_var 0) (sim_var 3))) (sim_addA (sim_var 3) (sim_int)))))) (ss_one (s_ret (sim_var 2))))
theorem sc_sized_line : FnScope N_sized_line ["many", "size"] (defScope (top 19)) := ⟨rfl, rfl, rfl, by decide +kernel, rfl, by decide +kernel, by decide +kernel⟩
theorem nd_sized_line : N_sized_line.Nodup := by decide
theorem ok_sized_line (e : Ev fx fa fn K mg base) : Fn PP w K mg base 10 "sized_line" ["many", "size"] (spW K (He.ga K) S_sized_line) := by
  have nd := nd_sized_line
  refine Fn.of (st := top 19) e 9 15 rfl rfl (fun _ _ _ _ _ _ us hl => match us, hl with | [_, _], _ => rfl) fun fd F => fn_sim (wf := w_sized_line) F sc_sized_line rfl (fun cdv A outer s H E g hr => ?_) pure_sized_line
  have hp := passes_c (P := PP) (w := w) (K := K) (mg := mg) (base := base) (N := N_sized_line) (x := "sized_line") (sc := defScope (top 19)) (f := He.ga K "sized_line") (cdv := cdv) (A := A) (outer := outer) (s := s) (H := H) (E := E)
  exact ss_one (s_ret (sim_if (simt_cmp op_ge r_geI (sim_addA (sim_sub (sim_var 0) (sim_var 1)) (sim_int)) (sim_var 1) rfl) (sim_callF (ok_ways_to_take e) g hr (by decide) rfl (sima_cons (sim_addA (sim_sub (sim_var 0) (sim_var 1)) (sim_int)) (sima_cons (sim_var 1) (sima_nil)))) (sim_int)))
theorem sc_lots_by_size : FnScope N_lots_by_size ["many", "is_round"] (defScope (top 20)) := ⟨rfl, rfl, rfl, by decide +kernel, rfl, by decide +kernel, by decide +kernel⟩
theorem nd_lots_by_size : N_lots_by_size.Nodup := by decide
theorem ok_lots_by_size (e : Ev fx fa fn K mg base) : Fn PP w K mg base 11 "lots_by_size" ["many", "is_round"] (spW K (He.ga K) S_lots_by_size) := by
  have nd := nd_lots_by_size
  refine Fn.of (st := top 20) e 10 16 rfl rfl (fun _ _ _ _ _ _ us hl => match us, hl with | [_, _], _ => rfl) fun fd F => fn_sim (wf := w_lots_by_size) F sc_lots_by_size rfl (fun cdv A outer s H E g hr => ?_) pure_lots_by_size
  have hp := passes_c (P := PP) (w := w) (K := K) (mg := mg) (base := base) (N := N_lots_by_size) (x := "lots_by_size") (sc := defScope (top 20)) (f := He.ga K "lots_by_size") (cdv := cdv) (A := A) (outer := outer) (s := s) (H := H) (E := E)
  exact ss_cons (s_expr (sim_callF (ok_check_number e) g hr (by decide) rfl (sima_cons (sim_var 0) (sima_cons (sim_int) (sima_cons (sim_con rfl (e.i 3)) (sima_nil)))))) (ss_cons (s_if (simt_not (simt_val (sim_isi (by decide) rfl (e.f 27) rfl rfl (e.f 24) rfl (sim_var 1)))) (ss_one (s_raise rfl rfl (e.g 4) (e.x 5))) (ss_nil)) (ss_cons (s_if (simt_val (sim_var 1)) (ss_cons (s_expr (sim_callF (ok_check_number e) g hr (by decide) rfl (sima_cons (sim_var 0) (sima_cons (sim_con rfl (e.i 2)) (sima_cons (sim_con rfl (e.i 3)) (sima_nil)))))) (ss_cons (s_own (i := 2) nd rfl (by first | exact Or.inl rfl | exact Or.inr rfl) (sim_lst (sima_cons (sim_int) (sima_nil)))) (ss_one (s_for (pt := (.nm 3)) hp rfl (si_range2 rfl (e.f 30) (sima_cons (sim_int) (sima_cons (sim_addA (sim_var 0) (sim_int)) (sima_nil)))) (pg_name nd rfl (by first | exact Or.inl rfl | exact Or.inr rfl)) (ss_one (s_appL 2 (sim_addA (sim_callF (ok_sized_line e) g hr (by decide) rfl (sima_cons (sim_sub (sim_var 0) (sim_int)) (sima_cons (sim_var 3) (sima_nil)))) (sim_callF (ok_sized_line e) g hr (by decide) rfl (sima_cons (sim_sub (sim_var 0) (sim_int)) (sima_cons (sim_sub (sim_var 3) (sim_int)) (sima_nil))))))))))) (ss_one (s_ownLc (i := 2) (own := [(("size" : Str), 3)]) (pt := (.nm 3)) rfl nd rfl rfl (sw_true rfl rfl rfl (by decide +kernel)) (si_range1 rfl (e.f 30) (sima_cons (sim_addA (sim_var 0) (sim_int)) (sima_nil))) (blkOk_by (N := N_lots_by_size) (sc := defScope (top 20)) (by decide +kernel)) (by decide) (fun _ _ _ _ _ => (pg_name nd rfl (by first | exact Or.inl rfl | exact Or.inr rfl))) (fun _ _ _ _ _ => sts_nil) (fun _ _ _ _ _ => sim_callF (ok_sized_line e) g hr (by decide) rfl (sima_cons (sim_var 0) (sima_cons (sim_var 3) (sima_nil))))))) (ss_cons (s_while hp (simt_cmp (oEq hr) r_eq (sim_ix (sim_var 2) (sim_neg (sim_int))) (sim_int) rfl) (ss_one (s_popL 2))) (ss_one (s_ret (sim_callT call_tuple_of c_tuple rfl (e.f 33) rfl (sima_cons (sim_var 2) (sima_nil))))))))
theorem sc__law_bag : FnScope NBag ["script", "mark"] (defScope (top 22)) := ⟨rfl, rfl, rfl, by decide +kernel, rfl, by decide +kernel, by decide +kernel⟩
theorem ok__law_bag (e : Ev fx fa fn K mg base) : Fn PP w K mg base 1 "_law_bag" ["script", "mark"] (spBag K) :=
  Fn.of (st := top 22) e 11 17 rfl rfl (fun _ _ _ _ _ _ us hl => match us, hl with | [_, _], _ => rfl) fun fd F => fng_bag F sc__law_bag rfl (by decide +kernel) (blkOk_by (by decide +kernel)) (fun _ _ _ _ _ _ _ _ _ _ _ _ => ⟨rfl, rfl, rfl⟩) (by decide +kernel) rfl rfl (e.f 26) (e.f 28) (e.f 23)
theorem sc__law_pick : FnScope NPick ["bag", "many"] (defScope (top 23)) := ⟨rfl, rfl, rfl, by decide +kernel, rfl, by decide +kernel, by decide +kernel⟩
theorem ok__law_pick (e : Ev fx fa fn K mg base) : Fn PP w K mg base 1 "_law_pick" ["bag", "many"] (spW K (He.ga K) S__law_pick) :=
  Fn.of (st := top 23) e 12 18 rfl rfl (fun _ _ _ _ _ _ us hl => match us, hl with | [_, _], _ => rfl) fun fd F => fng_pick F sc__law_pick rfl (by decide +kernel) ⟨rfl, rfl, rfl⟩ (e.f 26) (e.f 28) (e.f 29)
theorem sc__law_some : FnScope N__law_some ["bag", "things"] (defScope (top 24)) := ⟨rfl, rfl, rfl, by decide +kernel, rfl, by decide +kernel, by decide +kernel⟩
theorem nd__law_some : N__law_some.Nodup := by decide
theorem ok__law_some (e : Ev fx fa fn K mg base) : Fn PP w K mg base 14 "_law_some" ["bag", "things"] (spW K (He.ga K) S__law_some) := by
  have nd := nd__law_some
  refine Fn.of (st := top 24) e 13 19 rfl rfl (fun _ _ _ _ _ _ us hl => match us, hl with | [_, _], _ => rfl) fun fd F => fn_sim (wf := w__law_some) F sc__law_some rfl (fun cdv A outer s H E g hr => ?_) pure__law_some
  have hp := passes_c (P := PP) (w := w) (K := K) (mg := mg) (base := base) (N := N__law_some) (x := "_law_some") (sc := defScope (top 24)) (f := He.ga K "_law_some") (cdv := cdv) (A := A) (outer := outer) (s := s) (H := H) (E := E)
  exact ss_one (s_ret (sim_ix (sim_var 1) (sim_callF (ok__law_pick e) g hr (by decide) rfl (sima_cons (sim_var 0) (sima_cons (sim_callB call_len c_len rfl (e.f 28) rfl (sima_cons (sim_var 1) (sima_nil))) (sima_nil))))))
theorem sc__law_on_line : FnScope N__law_on_line ["many"] (defScope (top 25)) := ⟨rfl, rfl, rfl, by decide +kernel, rfl, by decide +kernel, by decide +kernel⟩
theorem nd__law_on_line : N__law_on_line.Nodup := by decide
theorem ok__law_on_line (e : Ev fx fa fn K mg base) : Fn PP w K mg base 15 "_law_on_line" ["many"] (spW K (He.ga K) S__law_on_line) := by
  have nd := nd__law_on_line
  refine Fn.of (st := top 25) e 14 20 rfl rfl (fun _ _ _ _ _ _ us hl => match us, hl with | [_], _ => rfl) fun fd F => fn_sim (wf := w__law_on_line) F sc__law_on_line rfl (fun cdv A outer s H E g hr => ?_) pure__law_on_line
  have hp := passes_c (P := PP) (w := w) (K := K) (mg := mg) (base := base) (N := N__law_on_line) (x := "_law_on_line") (sc := defScope (top 25)) (f := He.ga K "_law_on_line") (cdv := cdv) (A := A) (outer := outer) (s := s) (H := H) (E := E)
  exact ss_cons (s_parG2 (i := 1) (j := 2) (b1 := false) (b2 := false) rfl nd rfl rfl (by decide) rfl rfl (sima_cons (sim_lst (sima_cons (sim_int) (sima_nil))) (sima_cons (sim_lst (sima_cons (sim_int) (sima_nil))) (sima_nil))) rfl) (ss_cons (s_for (pt := (.nm 3)) hp rfl (si_range1 rfl (e.f 30) (sima_cons (sim_var 0) (sima_nil))) (pg_name nd rfl (by first | exact Or.inl rfl | exact Or.inr rfl)) (ss_cons (s_setLc (i := 4) (own := [(("one" : Str), 6), (("other" : Str), 7)]) (pt := (.tp [6, 7])) rfl nd rfl rfl (sw_true rfl rfl rfl (by decide +kernel)) (si_zip rfl (e.f 34) (sim_var 1) (sim_var 2)) (blkOk_by (N := N__law_on_line) (sc := defScope (top 25)) (by decide +kernel)) (by decide) (fun _ _ _ _ _ => (pg_tup rfl (pgs_cons (pg_name nd rfl (by first | exact Or.inl rfl | exact Or.inr rfl)) (pgs_cons (pg_name nd rfl (by first | exact Or.inl rfl | exact Or.inr rfl)) pgs_nil)))) (fun _ _ _ _ _ => sts_nil) (fun _ _ _ _ _ => sim_addA (sim_var 6) (sim_var 7))) (ss_cons (s_asg (i := 2) nd rfl (by first | exact Or.inl rfl | exact Or.inr rfl) (sim_addA (sim_lst (sima_cons (sim_int) (sima_nil))) (sim_var 1))) (ss_one (s_asg (i := 1) nd rfl (by first | exact Or.inl rfl | exact Or.inr rfl) (sim_addA (sim_var 4) (sim_lst (sima_cons (sim_int) (sima_nil))))))))) (ss_cons (s_ownLc (i := 5) (own := [(("one" : Str), 6), (("other" : Str), 7)]) (pt := (.tp [6, 7])) rfl nd rfl rfl (sw_true rfl rfl rfl (by decide +kernel)) (si_zip rfl (e.f 34) (sim_var 1) (sim_var 2)) (blkOk_by (N := N__law_on_line) (sc := defScope (top 25)) (by decide +kernel)) (by decide) (fun _ _ _ _ _ => (pg_tup rfl (pgs_cons (pg_name nd rfl (by first | exact Or.inl rfl | exact Or.inr rfl)) (pgs_cons (pg_name nd rfl (by first | exact Or.inl rfl | exact Or.inr rfl)) pgs_nil)))) (fun _ _ _ _ _ => sts_nil) (fun _ _ _ _ _ => sim_addA (sim_var 6) (sim_var 7))) (ss_cons (s_while hp (simt_cmp (oEq hr) r_eq (sim_ix (sim_var 5) (sim_neg (sim_int))) (sim_int) rfl) (ss_one (s_popL 5))) (ss_one (s_ret (sim_var 5))))))
theorem sc__law_on_round : FnScope N__law_on_round ["many"] (defScope (top 26)) := ⟨rfl, rfl, rfl, by decide +kernel, rfl, by decide +kernel, by decide +kernel⟩
theorem nd__law_on_round : N__law_on_round.Nodup := by decide
theorem ok__law_on_round (e : Ev fx fa fn K mg base) : Fn PP w K mg base 16 "_law_on_round" ["many"] (spW K (He.ga K) S__law_on_round) := by
  have nd := nd__law_on_round
  refine Fn.of (st := top 26) e 15 21 rfl rfl (fun _ _ _ _ _ _ us hl => match us, hl with | [_], _ => rfl) fun fd F => fn_sim (wf := w__law_on_round) F sc__law_on_round rfl (fun cdv A outer s H E g hr => ?_) pure__law_on_round
  have hp := passes_c (P := PP) (w := w) (K := K) (mg := mg) (base := base) (N := N__law_on_round) (x := "_law_on_round") (sc := defScope (top 26)) (f := He.ga K "_law_on_round") (cdv := cdv) (A := A) (outer := outer) (s := s) (H := H) (E := E)
  exact ss_cons (s_parG2 (i := 1) (j := 2) (b1 := false) (b2 := false) rfl nd rfl rfl (by decide) rfl rfl (sima_cons (sim_callF (ok__law_on_line e) g hr (by decide) rfl (sima_cons (sim_sub (sim_var 0) (sim_int)) (sima_nil))) (sima_cons (sim_addA (sim_lst (sima_cons (sim_int) (sima_nil))) (sim_callF (ok__law_on_line e) g hr (by decide) rfl (sima_cons (sim_sub (sim_var 0) (sim_int)) (sima_nil)))) (sima_nil))) rfl) (ss_cons (s_asg (i := 3) nd rfl (by first | exact Or.inl rfl | exact Or.inr rfl) (sim_callB (call_max2 rfl) c_max2 rfl (e.f 29) rfl (sima_cons (sim_callB call_len c_len rfl (e.f 28) rfl (sima_cons (sim_var 1) (sima_nil))) (sima_cons (sim_callB call_len c_len rfl (e.f 28) rfl (sima_cons (sim_var 2) (sima_nil))) (sima_nil))))) (ss_cons (s_parG2 (i := 1) (j := 2) (b1 := false) (b2 := false) rfl nd rfl rfl (by decide) rfl rfl (sima_cons (sim_addA (sim_var 1) (sim_mulB (sim_lst (sima_cons (sim_int) (sima_nil))) (sim_sub (sim_var 3) (sim_callB call_len c_len rfl (e.f 28) rfl (sima_cons (sim_var 1) (sima_nil)))))) (sima_cons (sim_addA (sim_var 2) (sim_mulB (sim_lst (sima_cons (sim_int) (sima_nil))) (sim_sub (sim_var 3) (sim_callB call_len c_len rfl (e.f 28) rfl (sima_cons (sim_var 2) (sima_nil)))))) (sima_nil))) rfl) (ss_one (s_ret (sim_lc (own := [(("one" : Str), 4), (("other" : Str), 5)]) (pt := (.tp [4, 5])) rfl nd (si_zip rfl (e.f 34) (sim_var 1) (sim_var 2)) (blkOk_by (N := N__law_on_round) (sc := defScope (top 26)) (by decide +kernel)) (by decide) (fun _ _ _ _ _ => (pg_tup rfl (pgs_cons (pg_name nd rfl (by first | exact Or.inl rfl | exact Or.inr rfl)) (pgs_cons (pg_name nd rfl (by first | exact Or.inl rfl | exact Or.inr rfl)) pgs_nil)))) (fun _ _ _ _ _ => sts_nil) (fun _ _ _ _ _ => sim_addA (sim_var 4) (sim_var 5)))))))
theorem sc_law : FnScope N_law ["script"] (defScope (top 27)) := ⟨rfl, rfl, rfl, by decide +kernel, rfl, by decide +kernel, by decide +kernel⟩
theorem nd_law : N_law.Nodup := by decide
theorem ok_law (e : Ev fx fa fn K mg base) {fd : FuncData} (F : FunD K "law" "law" (defArgs (top 27)) (defBody (top 27)) (defScope (top 27)) [] [] (He.ga K "law") fd) : FnG PP w K mg base 17 (He.ga K "law") fd ["script"] (spLaw K) := by
  have nd := nd_law
  obtain ⟨fdb, FB, kb, bb⟩ := (ok__law_bag (w := w) (base := base) e).F
  refine fng_law (k := 16) (ec := He.ga K) (wf := w_law) F sc_law rfl rfl rfl (by decide) rfl rfl rfl FB (ok__law_bag (w := w) (base := base) e).m kb bb (by decide) (fun cdv A outer s H E g hr => ?_) pure_law
  have hp := passes_c (P := PP) (w := w) (K := K) (mg := mg) (base := base) (N := N_law) (x := "law") (sc := defScope (top 27)) (f := He.ga K "law") (cdv := cdv) (A := A) (outer := outer) (s := s) (H := H) (E := E)
  exact ss_cons (s_if (simt_cmp (oNe hr) r_ne (sim_lc (own := [(("many" : Str), 3)]) (pt := (.nm 3)) rfl nd (si_seq (sim_tup (sima_cons (sim_int) (sima_cons (sim_int) (sima_cons (sim_int) (sima_nil)))))) (blkOk_by (N := N_law) (sc := defScope (top 27)) (by decide +kernel)) (by decide) (fun _ _ _ _ _ => (pg_name nd rfl (by first | exact Or.inl rfl | exact Or.inr rfl))) (fun _ _ _ _ _ => sts_nil) (fun _ _ _ _ _ => sim_callF (ok_lots_by_size e) g hr (by decide) rfl (sima_cons (sim_var 3) (sima_cons (sim_bl) (sima_nil))))) (sim_lst (sima_cons (sim_tup (sima_cons (sim_int) (sima_cons (sim_int) (sima_nil)))) (sima_cons (sim_tup (sima_cons (sim_int) (sima_cons (sim_int) (sima_cons (sim_int) (sima_nil))))) (sima_cons (sim_tup (sima_cons (sim_int) (sima_cons (sim_int) (sima_cons (sim_int) (sima_cons (sim_int) (sima_nil)))))) (sima_nil))))) rfl) (ss_one (s_ret (sim_bl))) (ss_nil)) (ss_cons (s_if (simt_cmp (oNe hr) r_ne (sim_lc (own := [(("many" : Str), 3)]) (pt := (.nm 3)) rfl nd (si_seq (sim_tup (sima_cons (sim_int) (sima_cons (sim_int) (sima_nil))))) (blkOk_by (N := N_law) (sc := defScope (top 27)) (by decide +kernel)) (by decide) (fun _ _ _ _ _ => (pg_name nd rfl (by first | exact Or.inl rfl | exact Or.inr rfl))) (fun _ _ _ _ _ => sts_nil) (fun _ _ _ _ _ => sim_callF (ok_lots_by_size e) g hr (by decide) rfl (sima_cons (sim_var 3) (sima_cons (sim_bl) (sima_nil))))) (sim_lst (sima_cons (sim_tup (sima_cons (sim_int) (sima_cons (sim_int) (sima_nil)))) (sima_cons (sim_tup (sima_cons (sim_int) (sima_cons (sim_int) (sima_cons (sim_int) (sima_nil))))) (sima_nil)))) rfl) (ss_one (s_ret (sim_bl))) (ss_nil)) (ss_cons (s_for (pt := (.nm 2)) hp rfl (si_range1 rfl (e.f 30) (sima_cons (sim_int) (sima_nil))) (pg_name nd rfl (by first | exact Or.inl rfl | exact Or.inr rfl)) (ss_cons (s_asg (i := 3) nd rfl (by first | exact Or.inl rfl | exact Or.inr rfl) (sim_callF (ok__law_some e) g hr (by decide) rfl (sima_cons (sim_var 1) (sima_cons (sim_lst (sima_cons (sim_int) (sima_cons (sim_int) (sima_cons (sim_int) (sima_cons (sim_int) (sima_cons (sim_addA (sim_int) (sim_callF (ok__law_pick e) g hr (by decide) rfl (sima_cons (sim_var 1) (sima_cons (sim_int) (sima_nil))))) (sima_nil))))))) (sima_nil))))) (ss_cons (s_parG2 (i := 4) (j := 5) (b1 := false) (b2 := false) rfl nd rfl rfl (by decide) rfl rfl (sima_cons (sim_callF (ok_lots_by_size e) g hr (by decide) rfl (sima_cons (sim_var 3) (sima_cons (sim_bl) (sima_nil)))) (sima_cons (sim_callF (ok_lots_by_size e) g hr (by decide) rfl (sima_cons (sim_var 3) (sima_cons (sim_bl) (sima_nil)))) (sima_nil))) rfl) (ss_cons (s_if (simt_rnN e.dg hr g (by rfl) (e.f 31) (by rfl) (by rfl) (sim_lst (sima_cons (sim_var 4) (sima_cons (sim_var 5) (sima_nil)))) (sim_lst (sima_cons (sim_callT call_tuple_of c_tuple rfl (e.f 33) rfl (sima_cons (sim_callF (ok__law_on_line e) g hr (by decide) rfl (sima_cons (sim_var 3) (sima_nil))) (sima_nil))) (sima_cons (sim_callT call_tuple_of c_tuple rfl (e.f 33) rfl (sima_cons (sim_callF (ok__law_on_round e) g hr (by decide) rfl (sima_cons (sim_var 3) (sima_nil))) (sima_nil))) (sima_nil))))) (ss_one (s_ret (sim_bl))) (ss_nil)) (ss_cons (s_if (simt_cmp (oNe hr) r_ne (sim_lst (sima_cons (sim_callB (cr_sumA rfl) c_sumA rfl (e.f 32) rfl (sima_cons (sim_var 4) (sima_nil))) (sima_cons (sim_callB (cr_sumA rfl) c_sumA rfl (e.f 32) rfl (sima_cons (sim_var 5) (sima_nil))) (sima_nil)))) (sim_lst (sima_cons (sim_callF (ok_lots_on_line e) g hr (by decide) rfl (sima_cons (sim_var 3) (sima_nil))) (sima_cons (sim_callF (ok_lots_on_round e) g hr (by decide) rfl (sima_cons (sim_var 3) (sima_nil))) (sima_nil)))) rfl) (ss_one (s_ret (sim_bl))) (ss_nil)) (ss_one (s_for (pt := (.nm 6)) hp rfl (si_seq (sim_tup (sima_cons (sim_var 4) (sima_cons (sim_var 5) (sima_nil))))) (pg_name nd rfl (by first | exact Or.inl rfl | exact Or.inr rfl)) (ss_one (s_if (simt_not (simt_chain op_le r_leI op_le r_leI (sim_neg (sim_int)) (sim_callB (cr_sumA rfl) c_sumA rfl (e.f 32) rfl (sima_cons (sim_lc (own := [(("at" : Str), 7), (("one" : Str), 8)]) (pt := (.tp [7, 8])) rfl nd (si_enumA rfl (e.f 25) (sim_var 6)) (blkOk_by (N := N_law) (sc := defScope (top 27)) (by decide +kernel)) (by decide) (fun _ _ _ _ _ => (pg_tup rfl (pgs_cons (pg_name nd rfl (by first | exact Or.inl rfl | exact Or.inr rfl)) (pgs_cons (pg_name nd rfl (by first | exact Or.inl rfl | exact Or.inr rfl)) pgs_nil)))) (fun _ _ _ _ _ => sts_nil) (fun _ _ _ _ _ => sim_if (simt_cmp (oEq hr) r_eq (sim_mod (sim_callT call_int1 c_int rfl (e.f 26) rfl (sima_cons (sim_var 7) (sima_nil))) (sim_int)) (sim_int) rfl) (sim_var 8) (sim_neg (sim_var 8)))) (sima_nil))) (sim_int))) (ss_one (s_ret (sim_bl))) (ss_nil)))))))))) (ss_one (s_ret (sim_bl)))))
end
end Hd
open PySem PySem.W PySem.Calls PyProof.Rows
theorem PySem.Challenge.cw_rankrows_k38_whole_lots_by_their_size_holds : PySem.Challenge.rw_rankrows_k38_whole_lots_by_their_size.Holds := by
  w_on; o_law
  refine HandSHeadRun.head_any (r := OpenLaw.row PySem.Challenge.rw_rankrows_k38_whole_lots_by_their_size) (q := view (OpenLaw.row PySem.Challenge.rw_rankrows_k38_whole_lots_by_their_size).prog [27]) (H := Hd.hk) (ob := Hd.ob) (M := 4000) (loose := ["RankError", "NoNumber", "NoFlag", "is_integer", "is_within", "check_number", "row_by", "raw_u", "raw_v", "MOST_TREES", "MOST_SIZED", "LEAST_WHEEL", "BASE", "lots_on_line", "lots_on_round", "ways_to_take", "sized_line", "lots_by_size", "_law_bag", "_law_pick", "_law_some", "_law_on_line", "_law_on_round"]) (d := HandSHeadRun.topDef (OpenLaw.row PySem.Challenge.rw_rankrows_k38_whole_lots_by_their_size).prog 27) (kwd := []) Hd.ob_eq
    (by kernel_rfl) (fun s => by kernel_rfl) Hd.run (by kernel_rfl) (by kernel_rfl) (by kernel_rfl) (by rfl) (by first | assumption | decide +kernel) (by decide +kernel) ⟨rfl, rfl, rfl, rfl, rfl, by decide +kernel⟩ ?hw ?hc
  case hw => w_witness2
  case hc =>
    refine R.walk_law (l := PySem.Challenge.rw_rankrows_k38_whole_lots_by_their_size) (n := 63) (k := 17) (x := "script") rfl (by decide) (by kernel_rfl) ⟨rfl, by decide, by decide⟩ ?F
    intro w mg fa h Y G hmg0
    obtain ⟨K, KX, c⟩ := Y
    have hmg : mg ("law" : PySem.Str) = some (.ref fa) := by
      have e : (HandSHeadRun.topDef (OpenLaw.row PySem.Challenge.rw_rankrows_k38_whole_lots_by_their_size).prog 27).name = ("law" : PySem.Str) := by kernel_rfl
      rw [← e]
      exact hmg0
    have e1 := hmg.symm.trans (He.glo_ok KX G (x := "law") (c.d.fact 22))
    cases e1
    obtain ⟨fd, F⟩ := c.d.def_ 16 (d := Hd.dd 27 "law" "law") rfl
    have b := L2.FunD.bindsA (ps := ["script"]) F fun _ _ _ _ _ _ us hl => match us, hl with | [_], _ => rfl
    exact ⟨K, fd, KX, c.tab, fun s u => b s [u] rfl, fun base _ _ dg TB => Hd.ok_law (R.Ev.of KX G c dg TB) F⟩
