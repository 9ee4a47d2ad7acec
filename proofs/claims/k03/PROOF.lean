import PyProof.Rows.All
import Wide.All
import OpenK.AllK
import Wide.FinOn
import HandS.ForMost
import HandS.ForExc
import HandS.HeadHook1
import HandS.HeadHook2
import HandS.HeadEnd
import HandS.Defaults
import HandS.Wide
import HandS.WideBits
import HandS.StrMore
import HandS.Style
import HandS.IsInst
import HandS.TupAny
import HandS.TupLe
import HandS.More
import HandS.Codes
import HandS.SortInts
import HandS.Conv
import HandS.Zip
import KE.DataMinMax
import KE.SortData
import HandS.Rev
import KE.KRevSl
import PyProof.CollectStr
import HandS.ExcValue
import PyProof.Rows.SortShellAny
import KE.KStateDown
import HandS.Ends
import HandS.Head0
import HandS.Head1
import HandS.Head2
import PySem.Challenge.RW_everyrowhasit_k03_whole_rows_made_of_lea
import KE.KStrOpen
set_option Elab.async false
set_option linter.all false
set_option maxRecDepth 100000
set_option maxHeartbeats 2000000
set_option autoImplicit false
namespace DL
open PySem PySem.Spec L2
open PyProof.Rows hiding St

/-! values: trees, own mutable things by number, the script, what stands fixed -/
inductive D where
  | t (d : PyData)
  | c (n : Nat)
  | s (ns : List Int)
  | k (v : V)
inductive Cell where
  | lst (ds : List PyData)
  | gone (d : PyData)
def Cell.live : Cell → Bool
  | .lst _ => true
  | .gone _ => false
abbrev Hd := List Cell
abbrev DS := List (Option D)
def Lv (r : List Addr) (h : Hd) (a : Addr) : Prop := ∃ (n : Nat) (c : Cell), r[n]? = some a ∧ h[n]? = some c ∧ c.live = true

mutual
inductive TR (K : PySem.W.Frag) (L : Addr → Prop) (H : Hp) : V → PyData → Prop
  | non : TR K L H .non .none
  | bl (b : Bool) : TR K L H (.bl b) (.bool b)
  | int (i : Int) : TR K L H (.int i) (.int i)
  | str (x : Str) : TR K L H (.str x) (.str x)
  | lst {a : Addr} {xs : List V} {ds : List PyData} (e : H a = some (.lst xs)) (n : ¬ L a) (t : TRs K L H xs ds) : TR K L H (.ref a) (.list ds)
  | tup {a : Addr} {xs : List V} {ds : List PyData} (e : H a = some (.tup xs)) (n : ¬ L a) (t : TRs K L H xs ds) : TR K L H (.ref a) (.tuple ds)
inductive TRs (K : PySem.W.Frag) (L : Addr → Prop) (H : Hp) : List V → List PyData → Prop
  | nil : TRs K L H [] []
  | cons {v : V} {vs : List V} {d : PyData} {ds : List PyData} : TR K L H v d → TRs K L H vs ds → TRs K L H (v :: vs) (d :: ds)
end

section
variable {K : PySem.W.Frag} {L L' : Addr → Prop} {H H' : Hp}
mutual
theorem TR.mono (k : ∀ a o, H a = some o → ¬ L a → H' a = some o ∧ ¬ L' a) : ∀ (d : PyData) (v : V), TR K L H v d → TR K L' H' v d
  | .none, _, h => by cases h; exact .non
  | .bool b, _, h => by cases h; exact .bl b
  | .int i, _, h => by cases h; exact .int i
  | .str x, _, h => by cases h; exact .str x
  | .list ds, _, h => by
    cases h with
    | lst e n t => exact .lst (k _ _ e n).1 (k _ _ e n).2 (TRs.mono k ds _ t)
  | .tuple ds, _, h => by
    cases h with
    | tup e n t => exact .tup (k _ _ e n).1 (k _ _ e n).2 (TRs.mono k ds _ t)
  | .dict kvs, _, h => by cases h
theorem TRs.mono (k : ∀ a o, H a = some o → ¬ L a → H' a = some o ∧ ¬ L' a) : ∀ (ds : List PyData) (vs : List V), TRs K L H vs ds → TRs K L' H' vs ds
  | [], _, h => by cases h; exact .nil
  | d :: ds, _, h => by
    cases h with
    | cons a b => exact .cons (TR.mono k d _ a) (TRs.mono k ds _ b)
end
theorem TRs.length : ∀ {vs : List V} {ds : List PyData}, TRs K L H vs ds → vs.length = ds.length
  | _, [], h => by cases h; rfl
  | _, d :: ds, h => by
    cases h with
    | cons a b => simp [TRs.length b]
theorem TRs.get : ∀ {vs : List V} {ds : List PyData} {i : Nat} {d : PyData}, TRs K L H vs ds → ds[i]? = some d → ∃ v, vs[i]? = some v ∧ TR K L H v d
  | _, [], _, _, h, e => by simp at e
  | _, d :: ds, 0, d', h, e => by
    cases h with
    | cons a b => simp at e; subst e; exact ⟨_, rfl, a⟩
  | _, d :: ds, i + 1, d', h, e => by
    cases h with
    | cons a b =>
      obtain ⟨v, h1, h2⟩ := TRs.get (i := i) b (by simpa using e)
      exact ⟨v, by simpa using h1, h2⟩
theorem TRs.getV : ∀ {vs : List V} {ds : List PyData} {i : Nat} {v : V}, TRs K L H vs ds → vs[i]? = some v → ∃ d, ds[i]? = some d ∧ TR K L H v d := by
  intro vs ds i v h e
  have hl := h.length
  have hi : i < vs.length := by
    rcases Nat.lt_or_ge i vs.length with q | q
    · exact q
    · rw [List.getElem?_eq_none q] at e; cases e
  obtain ⟨v', e1, e2⟩ := h.get (i := i) (d := ds[i]'(by omega)) (List.getElem?_eq_getElem (by omega))
  rw [e1] at e
  cases e
  exact ⟨_, List.getElem?_eq_getElem (by omega), e2⟩
theorem TRs.append : ∀ {vs ws : List V} {ds es : List PyData}, TRs K L H vs ds → TRs K L H ws es → TRs K L H (vs ++ ws) (ds ++ es)
  | _, _, [], _, h, g => by cases h; exact g
  | _, _, d :: ds, _, h, g => by
    cases h with
    | cons a b => exact .cons a (TRs.append b g)
theorem TRs.drop : ∀ (n : Nat) {vs : List V} {ds : List PyData}, TRs K L H vs ds → TRs K L H (vs.drop n) (ds.drop n)
  | 0, _, _, h => h
  | n + 1, _, [], h => by cases h; exact .nil
  | n + 1, _, d :: ds, h => by
    cases h with
    | cons a b => exact TRs.drop n b
theorem TRs.take : ∀ (n : Nat) {vs : List V} {ds : List PyData}, TRs K L H vs ds → TRs K L H (vs.take n) (ds.take n)
  | 0, _, _, h => .nil
  | n + 1, _, [], h => by cases h; exact .nil
  | n + 1, _, d :: ds, h => by
    cases h with
    | cons a b => exact .cons a (TRs.take n b)
theorem TRs.set : ∀ {vs : List V} {ds : List PyData} (i : Nat) {v : V} {d : PyData}, TRs K L H vs ds → TR K L H v d → TRs K L H (vs.set i v) (ds.set i d)
  | _, [], _, _, _, h, _ => by cases h; exact .nil
  | _, d :: ds, 0, _, _, h, r => by
    cases h with
    | cons a b => exact .cons r b
  | _, d :: ds, i + 1, _, _, h, r => by
    cases h with
    | cons a b => exact .cons a (TRs.set i b r)
theorem TRs.reverse : ∀ {vs : List V} {ds : List PyData}, TRs K L H vs ds → TRs K L H vs.reverse ds.reverse
  | _, [], h => by cases h; exact .nil
  | _, d :: ds, h => by
    cases h with
    | cons a b =>
      rw [List.reverse_cons, List.reverse_cons]
      exact (TRs.reverse b).append (.cons a .nil)
theorem TRs.rep {vs : List V} {ds : List PyData} (h : TRs K L H vs ds) : ∀ k : Nat, TRs K L H (List.replicate k vs).flatten (List.replicate k ds).flatten
  | 0 => .nil
  | k + 1 => by
    rw [List.replicate_succ, List.replicate_succ, List.flatten_cons, List.flatten_cons]
    exact h.append (TRs.rep h k)
/-- what is read: the list itself may be a live one -/
def WR (K : PySem.W.Frag) (L : Addr → Prop) (H : Hp) (v : V) : PyData → Prop
  | .list ds => ∃ a xs, v = .ref a ∧ H a = some (.lst xs) ∧ TRs K L H xs ds
  | d => TR K L H v d
theorem TR.w {v : V} {d : PyData} (h : TR K L H v d) : WR K L H v d := by
  cases h with
  | lst e n t => exact ⟨_, _, rfl, e, t⟩
  | non => exact .non
  | bl b => exact .bl b
  | int i => exact .int i
  | str x => exact .str x
  | tup e n t => exact .tup e n t
mutual
theorem TR.dp : ∀ (d : PyData) (v : V), TR K L H v d → Dp K H v d
  | .none, _, h => by cases h; exact .non
  | .bool b, _, h => by cases h; exact .bl b
  | .int i, _, h => by cases h; exact .int i
  | .str x, _, h => by cases h; exact .str x
  | .list ds, _, h => by
    cases h with
    | lst e n t => exact .lst (SqL.of e) (TRs.dp ds _ t)
  | .tuple ds, _, h => by
    cases h with
    | tup e n t => exact .tup (SqT.of e) (TRs.dp ds _ t)
  | .dict kvs, _, h => by cases h
theorem TRs.dp : ∀ (ds : List PyData) (vs : List V), TRs K L H vs ds → DpAll K H vs ds
  | [], _, h => by cases h; exact .nil
  | d :: ds, _, h => by
    cases h with
    | cons a b => exact .cons (TR.dp d _ a) (TRs.dp ds _ b)
end
theorem WR.dp {v : V} {d : PyData} (h : WR K L H v d) : Dp K H v d := by
  cases d with
  | list ds => obtain ⟨a, xs, rfl, e, t⟩ := h; exact .lst (SqL.of e) (TRs.dp _ _ t)
  | _ => exact TR.dp _ _ h
end

/-- a list of the written part (never changed) -/
def KL (K : PySem.W.Frag) (a : Addr) (xs : List V) : Prop :=
  ∃ (o : Obj) (its : Array Value) (n : Nat), K.lookup a = some o ∧ o.cls = .type "list" ∧ o.dict = none ∧ o.data = .seq its n ∧ its.size ≤ sizeLine ∧ Vals xs its.toList
/-- the script -/
def ScR (K : PySem.W.Frag) (L : Addr → Prop) (H : Hp) (a : Addr) (ns : List Int) : Prop := (Rd H a (.lst (ns.map V.int)) ∧ ¬ L a) ∨ KL K a (ns.map V.int)
theorem ScR.sql {K : PySem.W.Frag} {L : Addr → Prop} {H : Hp} {a : Addr} {ns : List Int} (h : ScR K L H a ns) : SqL K H a (ns.map V.int) := by
  rcases h with h | h
  · exact .inl h.1
  · exact .inr h
theorem ScR.mono {K : PySem.W.Frag} {L L' : Addr → Prop} {H H' : Hp} {a : Addr} {ns : List Int} (k : ∀ a o, H a = some o → ¬ L a → H' a = some o ∧ ¬ L' a) (h : ScR K L H a ns) : ScR K L' H' a ns := by
  rcases h with ⟨h, n⟩ | h
  · rcases h with h | ⟨o, h⟩
    · exact .inl ⟨.inl (k _ _ h n).1, (k _ _ h n).2⟩
    · exact .inl ⟨.inr ⟨o, (k _ _ h n).1⟩, (k _ _ h n).2⟩
  · exact .inr h

def DR (K : PySem.W.Frag) (r : List Addr) (h : Hd) (H : Hp) : D → V → Prop
  | .t d, v => TR K (Lv r h) H v d
  | .c n, v => ∃ a, r[n]? = some a ∧ v = .ref a
  | .s ns, v => ∃ a, v = .ref a ∧ ScR K (Lv r h) H a ns
  | .k u, v => v = u

inductive DRs (K : PySem.W.Frag) (r : List Addr) (h : Hd) (H : Hp) : List D → List V → Prop
  | nil : DRs K r h H [] []
  | cons {d : D} {ds : List D} {v : V} {vs : List V} : DR K r h H d v → DRs K r h H ds vs → DRs K r h H (d :: ds) (v :: vs)

def CellR (K : PySem.W.Frag) (L : Addr → Prop) (H : Hp) (a : Addr) : Cell → Prop
  | .lst ds => ∃ xs, H a = some (.lst xs) ∧ TRs K L H xs ds
  | .gone d => TR K L H (.ref a) d

structure Rel (K : PySem.W.Frag) (r : List Addr) (S : DS) (h : Hd) (s : St) (H : Hp) : Prop where
  nd : r.Nodup
  len : r.length = h.length
  cell : ∀ (n : Nat) (c : Cell) (a : Addr), h[n]? = some c → r[n]? = some a → CellR K (Lv r h) H a c
  slen : S.length = s.length
  slot : ∀ (i : Nat) (d : D), S[i]? = some (some d) → ∃ v, s[i]? = some (some v) ∧ DR K r h H d v

structure Ext (r : List Addr) (h : Hd) (H : Hp) (r' : List Addr) (h' : Hd) (H' : Hp) : Prop where
  pre : ∃ e, r' = r ++ e
  keep : ∀ a o, H a = some o → ¬ Lv r h a → H' a = some o ∧ ¬ Lv r' h' a
  new : ∀ a o, H a = some o → a ∉ r → a ∉ r'

theorem Lv.mem {r : List Addr} {h : Hd} {a : Addr} (l : Lv r h a) : a ∈ r := by
  obtain ⟨n, c, e, _⟩ := l
  exact List.mem_of_getElem? e
def Grow (H H' : Hp) : Prop := ∀ a o, H a = some o → H' a = some o
theorem Grow.refl {H : Hp} : Grow H H := fun _ _ e => e
theorem Grow.upd {H : Hp} {p : Addr} {o : HO} (n : H p = none) : Grow H (upd H p o) := fun a u e => by
  rw [upd_ne (ne_of_none e n)]; exact e
theorem Grow.trans {H H1 H2 : Hp} (a : Grow H H1) (b : Grow H1 H2) : Grow H H2 := fun x o e => b x o (a x o e)

section
variable {K : PySem.W.Frag} {r r1 r2 : List Addr} {S : DS} {h h1 h2 : Hd} {s : St} {H H1 H2 : Hp}
theorem Ext.refl : Ext r h H r h H := ⟨⟨[], by simp⟩, fun _ _ e n => ⟨e, n⟩, fun _ _ _ n => n⟩
theorem Ext.trans (a : Ext r h H r1 h1 H1) (b : Ext r1 h1 H1 r2 h2 H2) : Ext r h H r2 h2 H2 := by
  obtain ⟨e1, p1⟩ := a.pre
  obtain ⟨e2, p2⟩ := b.pre
  exact ⟨⟨e1 ++ e2, by rw [p2, p1, List.append_assoc]⟩, fun x o e n => b.keep x o (a.keep x o e n).1 (a.keep x o e n).2, fun x o e n => b.new x o (a.keep x o e fun l => n l.mem).1 (a.new x o e n)⟩
theorem Ext.grow (g : Grow H H1) : Ext r h H r h H1 := ⟨⟨[], by simp⟩, fun a o e n => ⟨g a o e, n⟩, fun _ _ _ n => n⟩
theorem DR.ext {d : D} {v : V} (x : DR K r h H d v) (e : Ext r h H r1 h1 H1) : DR K r1 h1 H1 d v := by
  cases d with
  | t d => exact TR.mono e.keep d v x
  | c n =>
    obtain ⟨a, q, rfl⟩ := x
    obtain ⟨f, p⟩ := e.pre
    refine ⟨a, ?_, rfl⟩
    rw [p, List.getElem?_append_left]
    · exact q
    · exact (List.getElem?_eq_some_iff.mp q).1
  | s ns =>
    obtain ⟨a, rfl, q⟩ := x
    exact ⟨a, rfl, q.mono e.keep⟩
  | k u => exact x
theorem DRs.ext {ds : List D} {vs : List V} (x : DRs K r h H ds vs) (e : Ext r h H r1 h1 H1) : DRs K r1 h1 H1 ds vs := by
  induction x with
  | nil => exact .nil
  | cons a _ ih => exact .cons (a.ext e) ih
theorem Rel.grow (R : Rel K r S h s H) (g : Grow H H1) : Rel K r S h s H1 where
  nd := R.nd
  len := R.len
  cell := fun n c a e q => by
    have := R.cell n c a e q
    cases c with
    | lst ds =>
      obtain ⟨xs, e1, e2⟩ := this
      exact ⟨xs, g _ _ e1, TRs.mono (fun a o e n => ⟨g a o e, n⟩) _ _ e2⟩
    | gone d => exact TR.mono (fun a o e n => ⟨g a o e, n⟩) _ _ this
  slen := R.slen
  slot := fun i d e => by
    obtain ⟨v, e1, e2⟩ := R.slot i d e
    exact ⟨v, e1, e2.ext (Ext.grow g)⟩
/-- live ones are tracked -/
theorem Rel.lv (R : Rel K r S h s H) {a : Addr} (l : Lv r h a) : ∃ o, H a = some o := by
  obtain ⟨n, c, e1, e2, e3⟩ := l
  have := R.cell n c a e2 e1
  cases c with
  | lst ds => obtain ⟨xs, e, _⟩ := this; exact ⟨_, e⟩
  | gone d => cases e3
theorem Rel.fresh (R : Rel K r S h s H) {p : Addr} (n : H p = none) : ¬ Lv r h p := fun l => by
  obtain ⟨o, e⟩ := R.lv l
  rw [n] at e; cases e
theorem Rel.fresh2 (R : Rel K r S h s H) {p : Addr} (n : H p = none) : p ∉ r := fun m => by
  obtain ⟨i, hi, e⟩ := List.getElem_of_mem m
  have hl : i < h.length := by rw [← R.len]; exact hi
  have := R.cell i h[i] p (List.getElem?_eq_getElem hl) (by rw [List.getElem?_eq_getElem hi, e])
  cases q : h[i] with
  | lst ds => rw [q] at this; obtain ⟨xs, e, _⟩ := this; rw [n] at e; cases e
  | gone d =>
    rw [q] at this
    cases this with
    | lst e _ _ => rw [n] at e; cases e
    | tup e _ _ => rw [n] at e; cases e
/-- a slot is stored -/
theorem Rel.set (R : Rel K r S h s H) (i : Nat) {d : D} {v : V} (x : DR K r h H d v) : Rel K r (S.set i (some d)) h (s.set i (some v)) H where
  nd := R.nd
  len := R.len
  cell := R.cell
  slen := by rw [List.length_set, List.length_set]; exact R.slen
  slot := fun j d' e => by
    by_cases hij : i = j
    · subst hij
      by_cases hl : i < S.length
      · rw [List.getElem?_set_self hl] at e
        cases e
        exact ⟨v, by rw [List.getElem?_set_self (by rw [← R.slen]; exact hl)], x⟩
      · rw [List.getElem?_eq_none (by simpa using hl)] at e
        cases e
    · rw [List.getElem?_set_ne hij] at e
      obtain ⟨w, e1, e2⟩ := R.slot j d' e
      exact ⟨w, by rw [List.getElem?_set_ne hij]; exact e1, e2⟩
end

/-! the small monad -/
inductive Res (α : Type) where
  | ok (a : α) (h : Hd)
  | err (c : Str) (p : D) (h : Hd)
abbrev M (α : Type) := Hd → Option (Res α)
def ret {α : Type} (a : α) : M α := fun h => some (.ok a h)
def bd {α β : Type} (m : M α) (f : α → M β) : M β := fun h => match m h with
  | some (.ok a h') => f a h'
  | some (.err c p h') => some (.err c p h')
  | none => none
def fail {α : Type} : M α := fun _ => none
def opt {α : Type} (o : Option α) : M α := fun h => match o with
  | some a => some (.ok a h)
  | none => none
/-- what is wished of an error -/
abbrev EW := Str → D → List Addr → Hd → St → Hp → Prop
def Post {α : Type} (K : PySem.W.Frag) (WE : EW) (r : List Addr) (S : DS) (h : Hd) (s : St) (H : Hp) (m : Option (Res α)) (G : α → List Addr → Hd → Hp → Prop) : Prop := match m with
  | none => False
  | some (.ok a h') => ∀ r' H', Rel K r' S h' s H' → Ext r h H r' h' H' → G a r' h' H'
  | some (.err c p h') => ∀ r' H', Rel K r' S h' s H' → Ext r h H r' h' H' → WE c p r' h' s H'
section
variable {α β : Type} {K : PySem.W.Frag} {WE : EW} {r r1 : List Addr} {S : DS} {h h1 : Hd} {s : St} {H H1 : Hp}
theorem Post.mono {m : Option (Res α)} {G G' : α → List Addr → Hd → Hp → Prop} (p : Post K WE r S h s H m G) (g : ∀ a r' h' H', Rel K r' S h' s H' → Ext r h H r' h' H' → G a r' h' H' → G' a r' h' H') : Post K WE r S h s H m G' := by
  cases m with
  | none => exact p
  | some x => cases x with
    | ok a h' => exact fun r' H' R E => g a r' h' H' R E (p r' H' R E)
    | err c q h' => exact p
theorem Post.bd {m : M α} {f : α → M β} {G : β → List Addr → Hd → Hp → Prop} (p : Post K WE r S h s H (bd m f h) G) : Post K WE r S h s H (m h) (fun a r1 h1 H1 => Post K WE r1 S h1 s H1 (f a h1) G) := by
  unfold DL.bd at p
  cases e : m h with
  | none => rw [e] at p; exact p
  | some x => cases x with
    | ok a h' =>
      rw [e] at p
      intro r' H' R E
      have p' : Post K WE r S h s H (f a h') G := p
      cases e2 : f a h' with
      | none => rw [e2] at p'; exact p'
      | some y => cases y with
        | ok b h2 =>
          rw [e2] at p'
          exact fun r2 H2 R2 E2 => p' r2 H2 R2 (E.trans E2)
        | err c q h2 =>
          rw [e2] at p'
          exact fun r2 H2 R2 E2 => p' r2 H2 R2 (E.trans E2)
    | err c q h' => rw [e] at p; exact p
theorem Post.opt {o : Option α} {G : α → List Addr → Hd → Hp → Prop} (R : Rel K r S h s H) (p : Post K WE r S h s H (opt o h) G) : ∃ a, o = some a ∧ G a r h H := by
  cases o with
  | none => exact False.elim p
  | some a => exact ⟨a, rfl, p r H R .refl⟩
theorem Post.ret {a : α} {G : α → List Addr → Hd → Hp → Prop} (R : Rel K r S h s H) (p : Post K WE r S h s H (ret a h) G) : G a r h H := p r H R .refl
/-- the state has moved on -/
theorem Post.at {m : Option (Res α)} {G : α → List Addr → Hd → Hp → Prop} (p : Post K WE r S h s H m G) (E : Ext r h H r1 h H1) : Post K WE r1 S h s H1 m G := by
  cases m with
  | none => exact p
  | some x => cases x with
    | ok a h' => exact fun r' H' R E2 => p r' H' R (E.trans E2)
    | err c q h' => exact fun r' H' R E2 => p r' H' R (E.trans E2)
end
end DL
set_option Elab.async false
set_option linter.all false
set_option maxRecDepth 100000
set_option maxHeartbeats 2000000
set_option autoImplicit false
namespace DL
open PySem PySem.Spec L2
open PyProof.Rows hiding St

/-! judgements -/
def tD (K : PySem.W.Frag) (WE : EW) (m : DS → M D) : TE := fun s H Q => ∃ r S h, Rel K r S h s H ∧ Post K WE r S h s H (m S h) (fun d r' h' H' => ∀ v, DR K r' h' H' d v → Q v H')
def tDA (K : PySem.W.Frag) (WE : EW) (m : DS → M (List D)) : TA := fun s H Q => ∃ r S h, Rel K r S h s H ∧ Post K WE r S h s H (m S h) (fun ds r' h' H' => ∀ vs, DRs K r' h' H' ds vs → Q vs H')
def tDT (K : PySem.W.Frag) (WE : EW) (m : DS → M Bool) : TT := fun s H Q => ∃ r S h, Rel K r S h s H ∧ Post K WE r S h s H (m S h) (fun b r' h' H' => Q b H')
def DE (X : Cx) (WE : EW) (e : Expr) (m : DS → M D) : Prop := PE X e (tD X.K WE m)
def DA (X : Cx) (WE : EW) (es : List Expr) (m : DS → M (List D)) : Prop := PA X es (tDA X.K WE m)
def DT (X : Cx) (WE : EW) (e : Expr) (m : DS → M Bool) : Prop := PT X e (tDT X.K WE m)
def DW (X : Cx) (WE : EW) (e : Expr) (m : DS → M Bool) : Prop := PW X e (tDT X.K WE m)
theorem PE.imp {X : Cx} {e : Expr} {t t' : TE} (p : PE X e t) (i : ∀ s H Q, t' s H Q → t s H Q) : PE X e t' := ⟨fun a b c d Q I q => p.run a b c d Q I (i _ _ _ q)⟩
theorem PT.imp {X : Cx} {e : Expr} {t t' : TT} (p : PT X e t) (i : ∀ s H Q, t' s H Q → t s H Q) : PT X e t' := ⟨fun a b c d Q I q => p.run a b c d Q I (i _ _ _ q)⟩
theorem PW.imp {X : Cx} {e : Expr} {t t' : TT} (p : PW X e t) (i : ∀ s H Q, t' s H Q → t s H Q) : PW X e t' := ⟨fun w a b c d Q I q => p.run w a b c d Q I (i _ _ _ q)⟩
theorem PA.imp {X : Cx} {es : List Expr} {t t' : TA} (p : PA X es t) (i : ∀ s H Q, t' s H Q → t s H Q) : PA X es t' := ⟨fun z a b c d Q I q => p.run z a b c d Q I (i _ _ _ q)⟩

/-! reading a value -/
def rd : D → M PyData
  | .t d => ret d
  | .c n => fun h => match h[n]? with
    | some (.lst ds) => some (.ok (.list ds) h)
    | some (.gone d) => some (.ok d h)
    | none => none
  | _ => fail
def rds : List D → M (List PyData)
  | [] => ret []
  | d :: ds => bd (rd d) fun x => bd (rds ds) fun xs => ret (x :: xs)
/-- a value that is kept within another: a live list is let go -/
def fz : D → M PyData
  | .t d => ret d
  | .c n => fun h => match h[n]? with
    | some (.lst ds) => some (.ok (.list ds) (h.set n (.gone (.list ds))))
    | some (.gone d) => some (.ok d h)
    | none => none
  | _ => fail
def fzs : List D → M (List PyData)
  | [] => ret []
  | d :: ds => bd (fz d) fun x => bd (fzs ds) fun xs => ret (x :: xs)
/-- a new list: live, or a tree -/
def mk (c : Bool) (ds : List PyData) : M D := match c with
  | true => fun h => some (.ok (.c h.length) (h ++ [.lst ds]))
  | false => ret (.t (.list ds))
inductive WRs (K : PySem.W.Frag) (L : Addr → Prop) (H : Hp) : List V → List PyData → Prop
  | nil : WRs K L H [] []
  | cons {v : V} {vs : List V} {d : PyData} {ds : List PyData} : WR K L H v d → WRs K L H vs ds → WRs K L H (v :: vs) (d :: ds)

theorem nd_inj : ∀ {l : List Addr} {i j : Nat} {a : Addr}, l.Nodup → l[i]? = some a → l[j]? = some a → i = j
  | [], _, _, _, _, h, _ => by simp at h
  | x :: l, 0, 0, _, _, _, _ => rfl
  | x :: l, 0, j + 1, a, nd, h, g => by
    simp at h g
    subst h
    exact absurd (List.mem_of_getElem? g) (List.nodup_cons.mp nd).1
  | x :: l, i + 1, 0, a, nd, h, g => by
    simp at h g
    subst g
    exact absurd (List.mem_of_getElem? h) (List.nodup_cons.mp nd).1
  | x :: l, i + 1, j + 1, a, nd, h, g => by
    simp at h g
    rw [nd_inj (List.nodup_cons.mp nd).2 h g]
section
variable {K : PySem.W.Frag} {WE : EW} {r : List Addr} {S : DS} {h : Hd} {s : St} {H : Hp}
theorem rd_ok {d : D} {v : V} {G : PyData → List Addr → Hd → Hp → Prop} (R : Rel K r S h s H) (x : DR K r h H d v) (p : Post K WE r S h s H (rd d h) G) : ∃ z, WR K (Lv r h) H v z ∧ G z r h H := by
  cases d with
  | t d => exact ⟨d, TR.w x, p r H R .refl⟩
  | c n =>
    obtain ⟨a, q, rfl⟩ := x
    unfold rd at p
    cases e : h[n]? with
    | none => simp only [e] at p; exact False.elim p
    | some c =>
      have cr := R.cell n c a e q
      cases c with
      | lst ds =>
        simp only [e] at p
        obtain ⟨xs, e1, e2⟩ := cr
        exact ⟨.list ds, ⟨a, xs, rfl, e1, e2⟩, p r H R .refl⟩
      | gone d =>
        simp only [e] at p
        exact ⟨d, TR.w cr, p r H R .refl⟩
  | s ns => exact False.elim p
  | k u => exact False.elim p
theorem rds_ok : ∀ {ds : List D} {vs : List V} {G : List PyData → List Addr → Hd → Hp → Prop}, Rel K r S h s H → DRs K r h H ds vs → Post K WE r S h s H (rds ds h) G → ∃ zs, WRs K (Lv r h) H vs zs ∧ G zs r h H
  | [], _, G, R, x, p => by cases x; exact ⟨[], .nil, p r H R .refl⟩
  | d :: ds, _, G, R, x, p => by
    cases x with
    | cons a b =>
      obtain ⟨z, z1, z2⟩ := rd_ok R a p.bd
      obtain ⟨zs, z3, z4⟩ := rds_ok R b z2.bd
      exact ⟨z :: zs, .cons z1 z3, z4.ret R⟩
/-- a live list is let go -/
theorem Rel.letgo (R : Rel K r S h s H) {n : Nat} {ds : List PyData} {a : Addr} (e : h[n]? = some (.lst ds)) (q : r[n]? = some a) :
    Rel K r S (h.set n (.gone (.list ds))) s H ∧ Ext r h H r (h.set n (.gone (.list ds))) H ∧ TR K (Lv r (h.set n (.gone (.list ds)))) H (.ref a) (.list ds) := by
  have hn : n < h.length := (List.getElem?_eq_some_iff.mp e).1
  have sub : ∀ b, Lv r (h.set n (.gone (.list ds))) b → Lv r h b := by
    rintro b ⟨m, c, m1, m2, m3⟩
    by_cases hm : n = m
    · subst hm
      rw [List.getElem?_set_self hn] at m2
      cases m2; cases m3
    · rw [List.getElem?_set_ne hm] at m2
      exact ⟨m, c, m1, m2, m3⟩
  have na : ¬ Lv r (h.set n (.gone (.list ds))) a := by
    rintro ⟨m, c, m1, m2, m3⟩
    have hr : n < r.length := by rw [R.len]; exact hn
    have em : m = n := nd_inj R.nd m1 q
    subst em
    rw [List.getElem?_set_self hn] at m2
    cases m2; cases m3
  have E : Ext r h H r (h.set n (.gone (.list ds))) H := ⟨⟨[], by simp⟩, fun b o e nl => ⟨e, fun l => nl (sub b l)⟩, fun _ _ _ n => n⟩
  obtain ⟨xs, x1, x2⟩ := R.cell n _ a e q
  have T : TR K (Lv r (h.set n (.gone (.list ds)))) H (.ref a) (.list ds) := .lst x1 na (TRs.mono E.keep _ _ x2)
  refine ⟨⟨R.nd, by rw [R.len, List.length_set], fun m c b e' q' => ?_, R.slen, fun i d e' => ?_⟩, E, T⟩
  · by_cases hm : n = m
    · subst hm
      rw [List.getElem?_set_self hn] at e'
      cases e'
      rw [q] at q'; cases q'
      exact T
    · rw [List.getElem?_set_ne hm] at e'
      have cr := R.cell m c b e' q'
      cases c with
      | lst es => obtain ⟨ys, y1, y2⟩ := cr; exact ⟨ys, y1, TRs.mono E.keep _ _ y2⟩
      | gone d => exact TR.mono E.keep _ _ cr
  · obtain ⟨v, v1, v2⟩ := R.slot i d e'
    exact ⟨v, v1, v2.ext E⟩
theorem fz_ok {d : D} {v : V} {G : PyData → List Addr → Hd → Hp → Prop} (R : Rel K r S h s H) (x : DR K r h H d v) (p : Post K WE r S h s H (fz d h) G) :
    ∃ z h', Rel K r S h' s H ∧ Ext r h H r h' H ∧ TR K (Lv r h') H v z ∧ G z r h' H := by
  cases d with
  | t d => exact ⟨d, h, R, .refl, x, p r H R .refl⟩
  | c n =>
    obtain ⟨a, q, rfl⟩ := x
    unfold fz at p
    cases e : h[n]? with
    | none => simp only [e] at p; exact False.elim p
    | some c =>
      cases c with
      | lst ds =>
        simp only [e] at p
        obtain ⟨R', E', T⟩ := R.letgo e q
        exact ⟨.list ds, _, R', E', T, p r H R' E'⟩
      | gone d =>
        simp only [e] at p
        exact ⟨d, h, R, .refl, R.cell n _ a e q, p r H R .refl⟩
  | s ns => exact False.elim p
  | k u => exact False.elim p
theorem fzs_ok : ∀ {ds : List D} {vs : List V} {h : Hd} {G : List PyData → List Addr → Hd → Hp → Prop}, Rel K r S h s H → DRs K r h H ds vs → Post K WE r S h s H (fzs ds h) G →
    ∃ zs h', Rel K r S h' s H ∧ Ext r h H r h' H ∧ TRs K (Lv r h') H vs zs ∧ G zs r h' H
  | [], _, h, G, R, x, p => by cases x; exact ⟨[], h, R, .refl, .nil, p r H R .refl⟩
  | d :: ds, _, h, G, R, x, p => by
    cases x with
    | cons a b =>
      obtain ⟨z, h1, R1, E1, z1, z2⟩ := fz_ok R a p.bd
      obtain ⟨zs, h2, R2, E2, z3, z4⟩ := fzs_ok R1 (b.ext E1) z2.bd
      exact ⟨z :: zs, h2, R2, E1.trans E2, .cons (TR.mono E2.keep _ _ z1) z3, z4.ret R2⟩
/-- a new list is laid -/
theorem Rel.alloc {p : Addr} {vs : List V} {ds : List PyData} (R : Rel K r S h s H) (t : TRs K (Lv r h) H vs ds) (n : H p = none) :
    Rel K (r ++ [p]) S (h ++ [.lst ds]) s (upd H p (.lst vs)) ∧ Ext r h H (r ++ [p]) (h ++ [.lst ds]) (upd H p (.lst vs)) := by
  have g : Grow H (upd H p (.lst vs)) := Grow.upd n
  have np2 := R.fresh2 n
  have lv : ∀ b, Lv (r ++ [p]) (h ++ [.lst ds]) b → Lv r h b ∨ b = p := by
    rintro b ⟨m, c, m1, m2, m3⟩
    by_cases hm : m < h.length
    · rw [List.getElem?_append_left hm] at m2
      rw [List.getElem?_append_left (by rw [R.len]; exact hm)] at m1
      exact .inl ⟨m, c, m1, m2, m3⟩
    · rw [List.getElem?_append_right (by rw [R.len]; omega)] at m1
      have hm2 : m - r.length = 0 := by
        rcases Nat.eq_zero_or_pos (m - r.length) with z | z
        · exact z
        · rw [List.getElem?_eq_none (by simp; omega)] at m1; cases m1
      rw [hm2] at m1
      simp at m1
      exact .inr m1.symm
  have E : Ext r h H (r ++ [p]) (h ++ [.lst ds]) (upd H p (.lst vs)) := ⟨⟨[p], rfl⟩, fun b o e nl => ⟨g b o e, fun l => by
    rcases lv b l with l | l
    · exact nl l
    · subst l; rw [n] at e; cases e⟩, fun b o e nb => by
      intro m
      rcases List.mem_append.mp m with m | m
      · exact nb m
      · simp at m; subst m; rw [n] at e; cases e⟩
  refine ⟨⟨?_, by simp [R.len], fun m c b e' q' => ?_, R.slen, fun i d e' => ?_⟩, E⟩
  · exact List.nodup_append.mpr ⟨R.nd, by simp, fun a ha b hb => by
      simp at hb; subst hb; intro z; subst z; exact np2 ha⟩
  · by_cases hm : m < h.length
    · rw [List.getElem?_append_left hm] at e'
      rw [List.getElem?_append_left (by rw [R.len]; exact hm)] at q'
      have cr := R.cell m c b e' q'
      cases c with
      | lst es =>
        obtain ⟨ys, y1, y2⟩ := cr
        exact ⟨ys, g _ _ y1, TRs.mono E.keep _ _ y2⟩
      | gone d => exact TR.mono E.keep _ _ cr
    · rw [List.getElem?_append_right (by omega)] at e'
      rw [List.getElem?_append_right (by rw [R.len]; omega)] at q'
      have hm2 : m - h.length = 0 := by
        rcases Nat.eq_zero_or_pos (m - h.length) with z | z
        · exact z
        · rw [List.getElem?_eq_none (by simp; omega)] at e'; cases e'
      rw [hm2] at e'
      rw [show m - r.length = 0 by rw [R.len]; exact hm2] at q'
      simp at e' q'
      subst e'; subst q'
      exact ⟨vs, upd_same, TRs.mono E.keep _ _ t⟩
  · obtain ⟨v, v1, v2⟩ := R.slot i d e'
    exact ⟨v, v1, v2.ext E⟩
theorem mk_ok {c : Bool} {p : Addr} {vs : List V} {ds : List PyData} {G : D → List Addr → Hd → Hp → Prop} (R : Rel K r S h s H) (t : TRs K (Lv r h) H vs ds) (n : H p = none) (q : Post K WE r S h s H (mk c ds h) G) :
    ∃ d r' h', Rel K r' S h' s (upd H p (.lst vs)) ∧ Ext r h H r' h' (upd H p (.lst vs)) ∧ DR K r' h' (upd H p (.lst vs)) d (.ref p) ∧ G d r' h' (upd H p (.lst vs)) := by
  have g : Grow H (upd H p (.lst vs)) := Grow.upd n
  have np := R.fresh n
  cases c with
  | false =>
    have R' := R.grow g
    have E : Ext r h H r h (upd H p (.lst vs)) := Ext.grow g
    exact ⟨.t (.list ds), r, h, R', E, (show TR K (Lv r h) (upd H p (.lst vs)) (.ref p) (.list ds) from .lst upd_same np (TRs.mono E.keep _ _ t)), q r _ R' E⟩
  | true =>
    obtain ⟨R', E⟩ := R.alloc t n
    have hp : (r ++ [p])[h.length]? = some p := by
      rw [← R.len, List.getElem?_append_right (Nat.le_refl _), Nat.sub_self]
      rfl
    exact ⟨.c h.length, _, _, R', E, (show ∃ a, (r ++ [p])[h.length]? = some a ∧ V.ref p = .ref a from ⟨p, hp, rfl⟩), q _ _ R' E⟩
end

/-! names and constants -/
def eVar (i : Nat) : DS → M D := fun S => match S[i]? with
  | some (some d) => ret d
  | _ => fail
def eC (d : D) : DS → M D := fun _ => ret d
section
variable {X : Cx} {WE : EW}
theorem de_var {i : Nat} {x : Str} {pos : Pos} (hN : X.N[i]? = some x) (hv : Vis X.env.scope x) (hd : (x == ("__debug__" : Str)) = false := by decide) (hcd : (x == ("__classdict__" : Str)) = false := by decide) : DE X WE (.Name x pos) (eVar i) :=
  PE.imp (pe_var hN hv hd hcd) fun s H Q ⟨r, S, h, R, p⟩ => by
    unfold eVar at p
    cases e : S[i]? with
    | none => simp only [e] at p; exact False.elim p
    | some o => cases o with
      | none => simp only [e] at p; exact False.elim p
      | some d =>
        simp only [e] at p
        obtain ⟨v, v1, v2⟩ := R.slot i d e
        exact ⟨v, v1, p r H R .refl v v2⟩
theorem de_const {e : Expr} {d : D} {v : V} (h : PE X e (tC v)) (c : ∀ r hh H, DR X.K r hh H d v) : DE X WE e (eC d) :=
  PE.imp h fun s H Q ⟨r, S, hh, R, p⟩ => p r H R .refl v (c _ _ _)
theorem de_int {i : Int} {j : Nat} {pos : Pos} : DE X WE (.Constant (.int i) j pos) (eC (.t (.int i))) := de_const pe_int fun _ _ _ => .int i
theorem de_bl {b : Bool} {j : Nat} {pos : Pos} : DE X WE (.Constant (.bool b) j pos) (eC (.t (.bool b))) := de_const pe_bl fun _ _ _ => .bl b
theorem de_non {j : Nat} {pos : Pos} : DE X WE (.Constant .none j pos) (eC (.t .none)) := de_const pe_non fun _ _ _ => .non
theorem de_str {x : Str} {j : Nat} {pos : Pos} : DE X WE (.Constant (.str x) j pos) (eC (.t (.str x))) := de_const pe_str fun _ _ _ => .str x
/-- a module's constant -/
theorem de_gint {x : Str} {i : Int} {pos : Pos} (hg : Gl X x) (hm : ∃ t, X.mg x = some (.int i t)) (hd : (x == ("__debug__" : Str)) = false := by decide) : DE X WE (.Name x pos) (eC (.t (.int i))) := by
  obtain ⟨t, hm⟩ := hm
  exact de_const (pe_glob (v := .int i) hg hm ⟨t, rfl⟩ hd) fun _ _ _ => .int i
theorem de_gstr {x z : Str} {pos : Pos} (hg : Gl X x) (hm : ∃ t, X.mg x = some (.str z t)) (hd : (x == ("__debug__" : Str)) = false := by decide) : DE X WE (.Name x pos) (eC (.t (.str z))) := by
  obtain ⟨t, hm⟩ := hm
  exact de_const (pe_glob (v := .str z) hg hm ⟨t, rfl⟩ hd) fun _ _ _ => .str z
theorem de_gref {x : Str} {a : Addr} {pos : Pos} (hg : Gl X x) (hm : X.mg x = some (.ref a)) (hd : (x == ("__debug__" : Str)) = false := by decide) : DE X WE (.Name x pos) (eC (.k (.ref a))) :=
  de_const (pe_glob (v := .ref a) hg hm rfl hd) fun _ _ _ => rfl
theorem de_ty {x : Str} {T : String} {pos : Pos} (hg : Gl X x) (hm : X.mg x = none) (hv : bootBuiltins x = some (.type T)) (hn : x ≠ "__name__" := by decide) (hd : (x == ("__debug__" : Str)) = false := by decide) : DE X WE (.Name x pos) (eC (.k (.ty T))) :=
  de_const (pe_bltn (v := .ty T) hg hm hv rfl hn hd) fun _ _ _ => rfl

/-! operators by trees -/
def PureD (K : PySem.W.Frag) (r : R2) (g : PyData → PyData → Option PyData) : Prop :=
  ∀ (L : Addr → Prop) (H : Hp) (x y : V) (a b z : PyData) (Q : VK), (∀ p, L p → ∃ o, H p = some o) → WR K L H x a → WR K L H y b → g a b = some z → (∀ v H', Grow H H' → TR K L H' v z → Q v H') → r x y H Q
def dBin (g : PyData → PyData → Option PyData) (ma mb : DS → M D) : DS → M D := fun S => bd (ma S) fun a => bd (mb S) fun b => bd (rd a) fun x => bd (rd b) fun y => bd (opt (g x y)) fun z => ret (.t z)
theorem bin_imp {r : R2} {g : PyData → PyData → Option PyData} {K : PySem.W.Frag} {ma mb : DS → M D} (hg : PureD K r g) (s : St) (H : Hp) (Q : VK) : tD K WE (dBin g ma mb) s H Q → tOp r (tD K WE ma) (tD K WE mb) s H Q := by
  rintro ⟨r0, S, h, R, p⟩
  refine ⟨r0, S, h, R, p.bd.mono fun a r1 h1 H1 R1 E1 q v dv => ⟨r1, S, h1, R1, q.bd.mono fun b r2 h2 H2 R2 E2 q2 w dw => ?_⟩⟩
  obtain ⟨x, x1, x2⟩ := rd_ok R2 (dv.ext E2) q2.bd
  obtain ⟨y, y1, y2⟩ := rd_ok R2 dw x2.bd
  obtain ⟨z, z1, z2⟩ := y2.bd.opt R2
  refine hg (Lv r2 h2) H2 v w x y z Q (fun p l => R2.lv l) x1 y1 z1 fun u H' gr t => ?_
  exact z2 r2 H' (R2.grow gr) (.grow gr) u t
theorem de_bin {op : Operator} {r : R2} {g : PyData → PyData → Option PyData} {a b : Expr} {ma mb : DS → M D} {pos : Pos} (ho : OpR X (binaryOp op) r) (hg : PureD X.K r g) (ha : DE X WE a ma) (hb : DE X WE b mb) : DE X WE (.BinOp a op b pos) (dBin g ma mb) :=
  PE.imp (pe_op ho ha hb) (bin_imp hg)
theorem de_cmp {op : CmpOp} {r : R2} {g : PyData → PyData → Option PyData} {a b : Expr} {ma mb : DS → M D} {pos : Pos} (ho : OpR X (compareOp op) r) (hg : PureD X.K r g) (ha : DE X WE a ma) (hb : DE X WE b mb) (hm : behindInMarks op b = false) : DE X WE (.Compare a [op] [b] pos) (dBin g ma mb) :=
  PE.imp (pe_cmpR ho ha hb hm) (bin_imp hg)
def dTest (m : DS → M D) : DS → M Bool := fun S => bd (m S) fun d => match d with
  | .t (.bool b) => ret b
  | _ => fail
theorem test_imp {K : PySem.W.Frag} {t : TE} {m : DS → M D} (i : ∀ s H Q, tD K WE m s H Q → t s H Q) (s : St) (H : Hp) (Q : Bool → Hp → Prop) : tDT K WE (dTest m) s H Q → tTest t s H Q := by
  rintro ⟨r0, S, h, R, p⟩
  refine i s H _ ⟨r0, S, h, R, p.bd.mono fun d r1 h1 H1 R1 E1 q v dv => ?_⟩
  cases d with
  | t d =>
    cases d with
    | bool b => cases dv; exact ⟨b, rfl, q r1 H1 R1 .refl⟩
    | _ => exact False.elim q
  | _ => exact False.elim q
theorem dt_cmp {op : CmpOp} {r : R2} {g : PyData → PyData → Option PyData} {a b : Expr} {ma mb : DS → M D} {pos : Pos} (ho : OpR X (compareOp op) r) (hg : PureD X.K r g) (ha : DE X WE a ma) (hb : DE X WE b mb) (hm : behindInMarks op b = false) : DT X WE (.Compare a [op] [b] pos) (dTest (dBin g ma mb)) :=
  PT.imp (pt_cmpR ho ha hb hm) (test_imp (bin_imp hg))
/-- a op b op c -/
def dChain (g g' : PyData → PyData → Option PyData) (ma mb mc : DS → M D) : DS → M D := fun S => bd (ma S) fun a => bd (mb S) fun b => bd (rd a) fun x => bd (rd b) fun y => bd (opt (g x y)) fun z => match z with
  | .bool true => bd (mc S) fun c => bd (rd b) fun y' => bd (rd c) fun w => bd (opt (g' y' w)) fun u => ret (.t u)
  | .bool false => ret (.t (.bool false))
  | _ => fail
theorem chain_imp {r r' : R2} {g g' : PyData → PyData → Option PyData} {K : PySem.W.Frag} {ma mb mc : DS → M D} (hg : PureD K r g) (hg' : PureD K r' g') (s : St) (H : Hp) (Q : VK) : tD K WE (dChain g g' ma mb mc) s H Q → tChain r r' (tD K WE ma) (tD K WE mb) (tD K WE mc) s H Q := by
  rintro ⟨r0, S, h, R, p⟩
  refine ⟨r0, S, h, R, p.bd.mono fun a r1 h1 H1 R1 E1 q v dv => ⟨r1, S, h1, R1, q.bd.mono fun b r2 h2 H2 R2 E2 q2 w dw => ?_⟩⟩
  obtain ⟨x, x1, x2⟩ := rd_ok R2 (dv.ext E2) q2.bd
  obtain ⟨y, y1, y2⟩ := rd_ok R2 dw x2.bd
  obtain ⟨z, z1, z2⟩ := y2.bd.opt R2
  refine hg (Lv r2 h2) H2 v w x y z _ (fun p l => R2.lv l) x1 y1 z1 fun u H' gr t => ?_
  have R3 := R2.grow gr
  have E3 : Ext r2 h2 H2 r2 h2 H' := .grow gr
  cases z with
  | bool k =>
    cases t
    refine ⟨k, rfl, ?_⟩
    cases k with
    | true =>
      rw [if_pos rfl]
      refine ⟨r2, S, h2, R3, (z2.at E3).bd.mono fun c r4 h4 H4 R4 E4 q4 w' dw' => ?_⟩
      obtain ⟨y', e1, e2⟩ := rd_ok R4 ((dw.ext E3).ext E4) q4.bd
      obtain ⟨c', e3, e4⟩ := rd_ok R4 dw' e2.bd
      obtain ⟨u', e5, e6⟩ := e4.bd.opt R4
      refine hg' (Lv r4 h4) H4 w w' y' c' u' Q (fun p l => R4.lv l) e1 e3 e5 fun u2 H5 gr5 t5 => ?_
      exact e6 r4 H5 (R4.grow gr5) (.grow gr5) u2 t5
    | false =>
      rw [if_neg (by simp)]
      exact z2 r2 H' R3 E3 _ (.bl false)
  | _ => exact False.elim z2
theorem de_chain {op op' : CmpOp} {r r' : R2} {g g' : PyData → PyData → Option PyData} {a b c : Expr} {ma mb mc : DS → M D} {pos : Pos} (ho : OpR X (compareOp op) r) (hg : PureD X.K r g) (ho' : OpR X (compareOp op') r') (hg' : PureD X.K r' g') (ha : DE X WE a ma) (hb : DE X WE b mb) (hc : DE X WE c mc) (hm : lastMarks [op, op'] [b, c] = false := by with_unfolding_all rfl) : DE X WE (.Compare a [op, op'] [b, c] pos) (dChain g g' ma mb mc) :=
  PE.imp (pe_chain ho ho' ha hb hc hm) (chain_imp hg hg')
theorem dt_chain {op op' : CmpOp} {r r' : R2} {g g' : PyData → PyData → Option PyData} {a b c : Expr} {ma mb mc : DS → M D} {pos : Pos} (ho : OpR X (compareOp op) r) (hg : PureD X.K r g) (ho' : OpR X (compareOp op') r') (hg' : PureD X.K r' g') (ha : DE X WE a ma) (hb : DE X WE b mb) (hc : DE X WE c mc) (hm : lastMarks [op, op'] [b, c] = false := by with_unfolding_all rfl) : DT X WE (.Compare a [op, op'] [b, c] pos) (dTest (dChain g g' ma mb mc)) :=
  PT.imp (pt_chain ho ho' ha hb hc hm) (test_imp (chain_imp hg hg'))
/-! one place -/
def PureU (K : PySem.W.Frag) (r : V → Hp → VK → Prop) (g : PyData → Option PyData) : Prop :=
  ∀ (L : Addr → Prop) (H : Hp) (x : V) (a z : PyData) (Q : VK), (∀ p, L p → ∃ o, H p = some o) → WR K L H x a → g a = some z → (∀ v H', Grow H H' → TR K L H' v z → Q v H') → r x H Q
def dUn (g : PyData → Option PyData) (ma : DS → M D) : DS → M D := fun S => bd (ma S) fun a => bd (rd a) fun x => bd (opt (g x)) fun z => ret (.t z)
theorem un_imp {r : V → Hp → VK → Prop} {g : PyData → Option PyData} {K : PySem.W.Frag} {ma : DS → M D} (hg : PureU K r g) (s : St) (H : Hp) (Q : VK) : tD K WE (dUn g ma) s H Q → tUn r (tD K WE ma) s H Q := by
  rintro ⟨r0, S, h, R, p⟩
  refine ⟨r0, S, h, R, p.bd.mono fun a r1 h1 H1 R1 E1 q v dv => ?_⟩
  obtain ⟨x, x1, x2⟩ := rd_ok R1 dv q.bd
  obtain ⟨z, z1, z2⟩ := x2.bd.opt R1
  exact hg (Lv r1 h1) H1 v x z Q (fun p l => R1.lv l) x1 z1 fun u H' gr t => z2 r1 H' (R1.grow gr) (.grow gr) u t
theorem de_un {op : UnaryOp} {r : V → Hp → VK → Prop} {g : PyData → Option PyData} {a : Expr} {ma : DS → M D} {pos : Pos} (ho : UnR X (unaryOp op) r) (hg : PureU X.K r g) (ha : DE X WE a ma) : DE X WE (.UnaryOp op a pos) (dUn g ma) :=
  PE.imp (pe_un ho ha) (un_imp hg)
/-! arguments -/
def aNil : DS → M (List D) := fun _ => ret []
def aCons (m : DS → M D) (ms : DS → M (List D)) : DS → M (List D) := fun S => bd (m S) fun d => bd (ms S) fun ds => ret (d :: ds)
theorem da_nil : DA X WE [] aNil := PA.imp pa_nil fun s H Q ⟨r, S, h, R, p⟩ => p r H R .refl [] .nil
theorem da_cons {e : Expr} {es : List Expr} {m : DS → M D} {ms : DS → M (List D)} (ha : DE X WE e m) (hr : DA X WE es ms) (hs : starEach (e :: es) X.env = (false, eval e X.env) :: starEach es X.env := by rfl) : DA X WE (e :: es) (aCons m ms) :=
  PA.imp (pa_cons ha hr hs) fun s H Q ⟨r0, S, h, R, p⟩ =>
    ⟨r0, S, h, R, p.bd.mono fun a r1 h1 H1 R1 E1 q v dv => ⟨r1, S, h1, R1, q.bd.mono fun b r2 h2 H2 R2 E2 q2 vs dvs => q2 r2 H2 R2 .refl (v :: vs) (.cons (dv.ext E2) dvs)⟩⟩
/-! displays -/
def dLst (c : Bool) (ms : DS → M (List D)) : DS → M D := fun S => bd (ms S) fun ds => bd (fzs ds) fun xs => if xs.length ≤ sizeLine then mk c xs else fail
def dTup (ms : DS → M (List D)) : DS → M D := fun S => bd (ms S) fun ds => bd (fzs ds) fun xs => if xs.length ≤ sizeLine then ret (.t (.tuple xs)) else fail
theorem de_lst (c : Bool) {es : List Expr} {ms : DS → M (List D)} {pos : Pos} (ha : DA X WE es ms) : DE X WE (.List es pos) (dLst c ms) :=
  PE.imp (pe_lst ha) fun s H Q ⟨r0, S, h, R, p⟩ => ⟨r0, S, h, R, p.bd.mono fun ds r1 h1 H1 R1 E1 q vs dvs => by
    obtain ⟨zs, h2, R2, E2, z1, z2⟩ := fzs_ok R1 dvs q.bd
    by_cases hl : zs.length ≤ sizeLine
    · rw [if_pos hl] at z2
      refine ⟨by rw [z1.length]; exact hl, fun p np => ?_⟩
      obtain ⟨d, r3, h3, R3, E3, d3, g3⟩ := mk_ok R2 z1 np z2
      exact g3 _ d3
    · rw [if_neg hl] at z2; exact False.elim z2⟩
theorem de_tup {es : List Expr} {ms : DS → M (List D)} {k : Nat} {pos : Pos} (ha : DA X WE es ms) : DE X WE (.Tuple es k pos) (dTup ms) :=
  PE.imp (pe_tup ha) fun s H Q ⟨r0, S, h, R, p⟩ => ⟨r0, S, h, R, p.bd.mono fun ds r1 h1 H1 R1 E1 q vs dvs => by
    obtain ⟨zs, h2, R2, E2, z1, z2⟩ := fzs_ok R1 dvs q.bd
    by_cases hl : zs.length ≤ sizeLine
    · rw [if_pos hl] at z2
      refine ⟨by rw [z1.length]; exact hl, fun p np => ?_⟩
      have g : Grow H1 (upd H1 p (.tup vs)) := Grow.upd np
      have E3 : Ext r1 h2 H1 r1 h2 (upd H1 p (.tup vs)) := .grow g
      exact z2 r1 _ (R2.grow g) E3 _ (.tup upd_same (R2.fresh np) (TRs.mono E3.keep _ _ z1))
    · rw [if_neg hl] at z2; exact False.elim z2⟩
/-! calls of built-ins by trees -/
def PureC (K : PySem.W.Frag) (r : List V → Hp → VK → Prop) (g : List PyData → Option PyData) : Prop :=
  ∀ (L : Addr → Prop) (H : Hp) (vs : List V) (xs : List PyData) (z : PyData) (Q : VK), (∀ p, L p → ∃ o, H p = some o) → WRs K L H vs xs → g xs = some z → (∀ v H', Grow H H' → TR K L H' v z → Q v H') → r vs H Q
def dCB (g : List PyData → Option PyData) (ms : DS → M (List D)) : DS → M D := fun S => bd (ms S) fun ds => bd (rds ds) fun xs => bd (opt (g xs)) fun z => ret (.t z)
theorem cb_imp {r : List V → Hp → VK → Prop} {g : List PyData → Option PyData} {K : PySem.W.Frag} {ms : DS → M (List D)} (hg : PureC K r g) (s : St) (H : Hp) (Q : VK) : tD K WE (dCB g ms) s H Q → tCB r (tDA K WE ms) s H Q := by
  rintro ⟨r0, S, h, R, p⟩
  refine ⟨r0, S, h, R, p.bd.mono fun ds r1 h1 H1 R1 E1 q vs dvs => ?_⟩
  obtain ⟨xs, x1, x2⟩ := rds_ok R1 dvs q.bd
  obtain ⟨z, z1, z2⟩ := x2.bd.opt R1
  exact hg (Lv r1 h1) H1 vs xs z Q (fun p l => R1.lv l) x1 z1 fun u H' gr t => z2 r1 H' (R1.grow gr) (.grow gr) u t
section
variable {x : Str} {p pos : Pos} {e : Expr} {es : List Expr} {ms : DS → M (List D)} {r : List V → Hp → VK → Prop} {g : List PyData → Option PyData}
theorem de_callB {id : String} (hc : CallR X (.builtin id) r) (hg : PureC X.K r g) (gl : Gl X x) (hm : X.mg x = none) (hv : bootBuiltins x = some (.builtin id)) (ha : DA X WE (e :: es) ms) (hn : x ≠ "__name__" := by decide) (hdb : (x == ("__debug__" : Str)) = false := by decide)
    (he : starEach (e :: es) X.env = (false, eval e X.env) :: starEach es X.env := by rfl) (hpl : (backTo pos (starEach es X.env)).any (·.1) = false := by rfl) : DE X WE (.Call (.Name x p) (e :: es) [] pos) (dCB g ms) :=
  PE.imp (pe_callB hc gl hm hv ha hn hdb he hpl) (cb_imp hg)
theorem de_callT {T : String} (hc : CallR X (.type T) r) (hg : PureC X.K r g) (gl : Gl X x) (hm : X.mg x = none) (hv : bootBuiltins x = some (.type T)) (ha : DA X WE (e :: es) ms) (hn : x ≠ "__name__" := by decide) (hdb : (x == ("__debug__" : Str)) = false := by decide)
    (he : starEach (e :: es) X.env = (false, eval e X.env) :: starEach es X.env := by rfl) (hpl : (backTo pos (starEach es X.env)).any (·.1) = false := by rfl) : DE X WE (.Call (.Name x p) (e :: es) [] pos) (dCB g ms) :=
  PE.imp (pe_callTy hc gl hm hv ha hn hdb he hpl) (cb_imp hg)
end
/-! tests -/
def tAndD (ma mb : DS → M Bool) : DS → M Bool := fun S => bd (ma S) fun c => match c with
  | true => mb S
  | false => ret false
def tOrD (ma mb : DS → M Bool) : DS → M Bool := fun S => bd (ma S) fun c => match c with
  | true => ret true
  | false => mb S
def tNotD (ma : DS → M Bool) : DS → M Bool := fun S => bd (ma S) fun c => ret (!c)
section
variable {a b : Expr} {rest : List Expr} {pos : Pos} {ma mb : DS → M Bool}
theorem dw_and1 (ha : DT X WE a ma) : DW X WE (.BoolOp .And [a] pos) ma := pw_and1 ha
theorem dw_or1 (ha : DT X WE a ma) : DW X WE (.BoolOp .Or [a] pos) ma := pw_or1 ha
theorem dw_and (ha : DT X WE a ma) (hb : DW X WE (.BoolOp .And (b :: rest) pos) mb) : DW X WE (.BoolOp .And (a :: b :: rest) pos) (tAndD ma mb) :=
  PW.imp (pw_and ha hb) fun s H Q ⟨r0, S, h, R, p⟩ => ⟨r0, S, h, R, p.bd.mono fun c r1 h1 H1 R1 E1 q => by
    cases c with
    | true => rw [if_pos rfl]; exact ⟨r1, S, h1, R1, q⟩
    | false => rw [if_neg (by simp)]; exact q r1 H1 R1 .refl⟩
theorem dw_or (ha : DT X WE a ma) (hb : DW X WE (.BoolOp .Or (b :: rest) pos) mb) : DW X WE (.BoolOp .Or (a :: b :: rest) pos) (tOrD ma mb) :=
  PW.imp (pw_or ha hb) fun s H Q ⟨r0, S, h, R, p⟩ => ⟨r0, S, h, R, p.bd.mono fun c r1 h1 H1 R1 E1 q => by
    cases c with
    | true => rw [if_pos rfl]; exact q r1 H1 R1 .refl
    | false => rw [if_neg (by simp)]; exact ⟨r1, S, h1, R1, q⟩⟩
theorem dt_w {e : Expr} {m : DS → M Bool} (hw : DW X WE e m) : DT X WE e m := PW.pt hw
theorem dt_not (ha : DT X WE a ma) : DT X WE (.UnaryOp .Not a pos) (tNotD ma) :=
  PT.imp (pt_not ha) fun s H Q ⟨r0, S, h, R, p⟩ => ⟨r0, S, h, R, p.bd.mono fun c r1 h1 H1 R1 E1 q => q r1 H1 R1 .refl⟩
end
/-- truth -/
def truP : PyData → Option Bool
  | .none => some false
  | .bool b => some b
  | .int i => some (i != 0)
  | .str x => if x.length ≤ sizeLine then some ((x.length : Int) != 0) else none
  | .list ds => some (!ds.isEmpty)
  | .tuple ds => some (!ds.isEmpty)
  | .dict _ => none
theorem empty_len {α β : Type} {xs : List α} {ys : List β} (h : xs.length = ys.length) : xs.isEmpty = ys.isEmpty := by
  cases xs <;> cases ys <;> simp_all
theorem tru_of {K : PySem.W.Frag} {L : Addr → Prop} {H : Hp} {v : V} {d : PyData} {b : Bool} (w : WR K L H v d) (e : truP d = some b) : TruV K v H b := by
  cases d with
  | none => cases w; cases e; rfl
  | bool c => cases w; cases e; rfl
  | int i => cases w; cases e; rfl
  | str x =>
    cases w
    simp only [truP] at e
    split at e
    · cases e; exact ⟨by assumption, rfl⟩
    · cases e
  | list ds =>
    obtain ⟨a, xs, rfl, e1, e2⟩ := w
    cases e
    exact .inl ⟨xs, SqL.of e1, by rw [empty_len e2.length]⟩
  | tuple ds =>
    cases w with
    | tup e1 n e2 =>
      cases e
      exact .inr (.inl ⟨_, SqT.of e1, by rw [empty_len e2.length]⟩)
  | dict kvs => cases e
def dTru (m : DS → M D) : DS → M Bool := fun S => bd (m S) fun d => bd (rd d) fun x => opt (truP x)
theorem dt_tru {a : Expr} {m : DS → M D} (ha : DE X WE a m) (he : ∀ whole, isTrue a X.env whole = (do let v ← whole; standAt a.pos; holding [v] (truthy v)) := by intro _; rfl) : DT X WE a (dTru m) :=
  PT.imp (pt_truth ha he) fun s H Q ⟨r0, S, h, R, p⟩ => ⟨r0, S, h, R, p.bd.mono fun d r1 h1 H1 R1 E1 q v dv => by
    obtain ⟨x, x1, x2⟩ := rd_ok R1 dv q.bd
    obtain ⟨b, b1, b2⟩ := x2.opt R1
    exact ⟨b, tru_of x1 b1, b2⟩⟩
/-- a if t else b -/
def dIf (t : DS → M Bool) (ma mb : DS → M D) : DS → M D := fun S => bd (t S) fun c => match c with
  | true => ma S
  | false => mb S
theorem de_if {c a b : Expr} {pos : Pos} {t : DS → M Bool} {ma mb : DS → M D} (hc : DT X WE c t) (ha : DE X WE a ma) (hb : DE X WE b mb) : DE X WE (.IfExp c a b pos) (dIf t ma mb) :=
  PE.imp (pe_ifExp hc ha hb) fun s H Q ⟨r0, S, h, R, p⟩ => ⟨r0, S, h, R, p.bd.mono fun c r1 h1 H1 R1 E1 q => by
    cases c with
    | true => rw [if_pos rfl]; exact ⟨r1, S, h1, R1, q⟩
    | false => rw [if_neg (by simp)]; exact ⟨r1, S, h1, R1, q⟩⟩
/-- and, or, not as values; all but the last are bools -/
def dAnd (ma mb : DS → M D) : DS → M D := fun S => bd (ma S) fun a => match a with
  | .t (.bool true) => mb S
  | .t (.bool false) => ret (.t (.bool false))
  | _ => fail
def dOr (ma mb : DS → M D) : DS → M D := fun S => bd (ma S) fun a => match a with
  | .t (.bool true) => ret (.t (.bool true))
  | .t (.bool false) => mb S
  | _ => fail
def dNot (ma : DS → M D) : DS → M D := fun S => bd (ma S) fun a => match a with
  | .t (.bool b) => ret (.t (.bool (!b)))
  | _ => fail
section
variable {a b : Expr} {rest : List Expr} {pos : Pos} {ma mb : DS → M D} {op : BoolOp}
theorem de_one (ha : DE X WE a ma) : DE X WE (.BoolOp op [a] pos) ma := pe_one ha
theorem de_and (ha : DE X WE a ma) (hb : DE X WE (.BoolOp .And (b :: rest) pos) mb) : DE X WE (.BoolOp .And (a :: b :: rest) pos) (dAnd ma mb) :=
  PE.imp (pe_and ha hb) fun s H Q ⟨r0, S, h, R, p⟩ => ⟨r0, S, h, R, p.bd.mono fun d r1 h1 H1 R1 E1 q v dv => by
    cases d with
    | t d =>
      cases d with
      | bool c =>
        cases dv
        refine ⟨c, rfl, ?_⟩
        cases c with
        | true => rw [if_pos rfl]; exact ⟨r1, S, h1, R1, q⟩
        | false => rw [if_neg (by simp)]; exact q r1 H1 R1 .refl _ (.bl false)
      | _ => exact False.elim q
    | _ => exact False.elim q⟩
theorem de_or (ha : DE X WE a ma) (hb : DE X WE (.BoolOp .Or (b :: rest) pos) mb) : DE X WE (.BoolOp .Or (a :: b :: rest) pos) (dOr ma mb) :=
  PE.imp (pe_or ha hb) fun s H Q ⟨r0, S, h, R, p⟩ => ⟨r0, S, h, R, p.bd.mono fun d r1 h1 H1 R1 E1 q v dv => by
    cases d with
    | t d =>
      cases d with
      | bool c =>
        cases dv
        refine ⟨c, rfl, ?_⟩
        cases c with
        | true => rw [if_pos rfl]; exact q r1 H1 R1 .refl _ (.bl true)
        | false => rw [if_neg (by simp)]; exact ⟨r1, S, h1, R1, q⟩
      | _ => exact False.elim q
    | _ => exact False.elim q⟩
theorem de_not (ha : DE X WE a ma) : DE X WE (.UnaryOp .Not a pos) (dNot ma) :=
  PE.imp (pe_not ha) fun s H Q ⟨r0, S, h, R, p⟩ => ⟨r0, S, h, R, p.bd.mono fun d r1 h1 H1 R1 E1 q v dv => by
    cases d with
    | t d =>
      cases d with
      | bool c => cases dv; exact ⟨c, rfl, q r1 H1 R1 .refl _ (.bl _)⟩
      | _ => exact False.elim q
    | _ => exact False.elim q⟩
end
end
end DL
set_option Elab.async false
set_option linter.all false
set_option maxRecDepth 100000
set_option maxHeartbeats 2000000
set_option autoImplicit false
namespace DL
open PySem PySem.Spec L2
open PyProof.Rows hiding St

/-! statements -/
inductive Out where
  | nx | rt (d : D) | bk | ct | er (c : Str) (p : D)
abbrev SM := DS → Hd → Option (Out × DS × Hd)
def Fin (K : PySem.W.Frag) (WE : EW) (Z : Ends) (r : List Addr) (h : Hd) (s : St) (H : Hp) : Out → Prop
  | .nx => Z.nx s H
  | .rt d => ∀ v, DR K r h H d v → Z.rt v H
  | .bk => Z.bk s H
  | .ct => Z.ct s H
  | .er c p => WE c p r h s H
def PostS (K : PySem.W.Frag) (WE : EW) (r : List Addr) (h : Hd) (H : Hp) (x : Option (Out × DS × Hd)) (G : Out → List Addr → DS → Hd → St → Hp → Prop) : Prop := match x with
  | none => False
  | some (o, S', h') => ∀ r' s' H', Rel K r' S' h' s' H' → Ext r h H r' h' H' → G o r' S' h' s' H'
def tS (K : PySem.W.Frag) (WE : EW) (g : SM) : TS := fun Z s H => ∃ r S h, Rel K r S h s H ∧ PostS K WE r h H (g S h) (fun o r' _ h' s' H' => Fin K WE Z r' h' s' H' o)
def DSt (X : Cx) (WE : EW) (st : Stmt) (g : SM) : Prop := PS X st (tS X.K WE g)
def DSs (X : Cx) (WE : EW) (st : List Stmt) (g : SM) : Prop := PSs X st (tS X.K WE g)
theorem PS.imp {X : Cx} {e : Stmt} {t t' : TS} (p : PS X e t) (i : ∀ Z s H, t' Z s H → t Z s H) : PS X e t' := ⟨fun a b c d Q I q => p.run a b c d Q I (i _ _ _ q)⟩
theorem PSs.imp {X : Cx} {e : List Stmt} {t t' : TS} (p : PSs X e t) (i : ∀ Z s H, t' Z s H → t Z s H) : PSs X e t' := ⟨fun a b c d Q I q => p.run a b c d Q I (i _ _ _ q)⟩
def sB {α : Type} (m : DS → M α) (k : α → SM) : SM := fun S h => match m S h with
  | some (.ok a h') => k a S h'
  | some (.err c p h') => some (.er c p, S, h')
  | none => none
def sNext : SM := fun S h => some (.nx, S, h)
def sNever : SM := fun _ _ => none
def sSeq (a b : SM) : SM := fun S h => match a S h with
  | some (.nx, S', h') => b S' h'
  | x => x
section
variable {K : PySem.W.Frag} {WE : EW} {r r1 : List Addr} {S : DS} {h : Hd} {s : St} {H H1 : Hp} {G G' : Out → List Addr → DS → Hd → St → Hp → Prop}
theorem PostS.mono {x : Option (Out × DS × Hd)} (p : PostS K WE r h H x G) (g : ∀ o r' S' h' s' H', Rel K r' S' h' s' H' → Ext r h H r' h' H' → G o r' S' h' s' H' → G' o r' S' h' s' H') : PostS K WE r h H x G' := by
  cases x with
  | none => exact p
  | some x => obtain ⟨o, S', h'⟩ := x; exact fun r' s' H' R E => g o r' S' h' s' H' R E (p r' s' H' R E)
theorem PostS.at {x : Option (Out × DS × Hd)} (p : PostS K WE r h H x G) {h1 : Hd} (E : Ext r h H r1 h1 H1) : PostS K WE r1 h1 H1 x G := by
  cases x with
  | none => exact p
  | some x => obtain ⟨o, S', h'⟩ := x; exact fun r' s' H' R E2 => p r' s' H' R (E.trans E2)
/-- what follows an expression -/
theorem PostS.sB {α : Type} {m : DS → M α} {k : α → SM} {Z : Ends} (p : PostS K WE r h H (sB m k S h) (fun o r' _ h' s' H' => Fin K WE Z r' h' s' H' o)) :
    Post K WE r S h s H (m S h) (fun a r1 h1 H1 => PostS K WE r1 h1 H1 (k a S h1) (fun o r' _ h' s' H' => Fin K WE Z r' h' s' H' o)) := by
  unfold DL.sB at p
  cases e : m S h with
  | none => rw [e] at p; exact p
  | some x => cases x with
    | ok a h' =>
      rw [e] at p
      intro r' H' R E
      exact PostS.at (show PostS K WE r h H (k a S h') _ from p) E
    | err c q h' =>
      rw [e] at p
      exact fun r' H' R E => p r' s H' R E
end
section
variable {X : Cx} {WE : EW} {st : Stmt} {rest : List Stmt} {g g1 g2 : SM} {pos : Pos} {e : Expr} {m : DS → M D}
theorem ds_nil : DSs X WE [] sNext := PSs.imp pss_nil fun Z s H ⟨r, S, h, R, p⟩ => p r s H R .refl
theorem ds_cons (h1 : DSt X WE st g1) (h2 : DSs X WE rest g2) : DSs X WE (st :: rest) (sSeq g1 g2) :=
  PSs.imp (pss_cons h1 h2) fun Z s H ⟨r, S, h, R, p⟩ => by
    refine ⟨r, S, h, R, ?_⟩
    unfold sSeq at p
    cases x : g1 S h with
    | none => rw [x] at p; exact p
    | some y =>
      obtain ⟨o, S', h'⟩ := y
      rw [x] at p
      cases o with
      | nx => exact fun r' s' H' R' E' => ⟨r', S', h', R', p.at E'⟩
      | rt d => exact p
      | bk => exact p
      | ct => exact p
      | er c q => exact p
theorem ds_one (h1 : DSt X WE st g) : DSs X WE [st] g := pss_one h1
theorem ds_pass : DSt X WE (.Pass pos) sNext := PS.imp ps_pass fun Z s H ⟨r, S, h, R, p⟩ => p r s H R .refl
theorem ds_never : DSt X WE st sNever := PS.imp ps_never fun Z s H ⟨r, S, h, R, p⟩ => p
def sBreak : SM := fun S h => some (.bk, S, h)
def sCont : SM := fun S h => some (.ct, S, h)
theorem ds_break : DSt X WE (.Break pos) sBreak := PS.imp ps_break fun Z s H ⟨r, S, h, R, p⟩ => p r s H R .refl
theorem ds_cont : DSt X WE (.Continue pos) sCont := PS.imp ps_continue fun Z s H ⟨r, S, h, R, p⟩ => p r s H R .refl
def sRet (m : DS → M D) : SM := sB m fun d S h => some (.rt d, S, h)
def sRetN : SM := fun S h => some (.rt (.t .none), S, h)
def sDrop (m : DS → M D) : SM := sB m fun _ S h => some (.nx, S, h)
theorem ds_ret (he : DE X WE e m) : DSt X WE (.Return (some e) pos) (sRet m) :=
  PS.imp (ps_ret he) fun Z s H ⟨r, S, h, R, p⟩ => ⟨r, S, h, R, p.sB.mono fun d r1 h1 H1 R1 E1 q v dv => q r1 s H1 R1 .refl v dv⟩
theorem ds_retN : DSt X WE (.Return none pos) sRetN :=
  PS.imp ps_retN fun Z s H ⟨r, S, h, R, p⟩ => p r s H R .refl .non .non
theorem ds_expr (he : DE X WE e m) (hs : swapsWith e none pos.line X.env = pure false := by rfl) : DSt X WE (.Expr e pos) (sDrop m) :=
  PS.imp (ps_expr he hs) fun Z s H ⟨r, S, h, R, p⟩ => ⟨r, S, h, R, p.sB.mono fun d r1 h1 H1 R1 E1 q v dv => q r1 s H1 R1 .refl⟩
def sIf (t : DS → M Bool) (a b : SM) : SM := sB t fun c => match c with
  | true => a
  | false => b
theorem ds_if {c : Expr} {a b : List Stmt} {t : DS → M Bool} (hc : DT X WE c t) (ha : DSs X WE a g1) (hb : DSs X WE b g2) : DSt X WE (.If c a b pos) (sIf t g1 g2) :=
  PS.imp (ps_if hc ha hb) fun Z s H ⟨r, S, h, R, p⟩ => ⟨r, S, h, R, p.sB.mono fun c r1 h1 H1 R1 E1 q => by
    cases c with
    | true => rw [if_pos rfl]; exact ⟨r1, S, h1, R1, q⟩
    | false => rw [if_neg (by simp)]; exact ⟨r1, S, h1, R1, q⟩⟩
/-! targets -/
theorem wipe_set {i : Nat} {x : Option V} : ∀ {vs : List Nat} {s : St}, i ∈ vs → L2.wipe (s.set i x) vs = L2.wipe s vs
  | [], _, h => by cases h
  | v :: vs, s, h => by
    show (L2.wipe (s.set i x) vs).set v none = (L2.wipe s vs).set v none
    by_cases hm : i ∈ vs
    · rw [wipe_set hm]
    · have hv : i = v := by
        rcases List.mem_cons.mp h with z | z
        · exact z
        · exact absurd z hm
      subst hv
      have key : ∀ {ws : List Nat} {s : St}, i ∉ ws → L2.wipe (s.set i x) ws = (L2.wipe s ws).set i x := by
        intro ws
        induction ws with
        | nil => intro s _; rfl
        | cons w ws ih =>
          intro s hw
          show (L2.wipe (s.set i x) ws).set w none = ((L2.wipe s ws).set w none).set i x
          rw [ih fun z => hw (List.mem_cons_of_mem _ z), List.set_comm]
          intro z
          exact hw (by rw [z]; exact List.mem_cons_self)
      rw [key hm, List.set_set]
/-- a target takes a tree -/
def tG (K : PySem.W.Frag) (f : PyData → DS → Option DS) (is : List Nat) : TG := fun v s H Q =>
  ∃ r S h d S', Rel K r S h s H ∧ TR K (Lv r h) H v d ∧ f d S = some S' ∧ ∀ s', Rel K r S' h s' H → (∀ own : List Nat, (∀ i ∈ is, i ∈ own) → L2.wipe s' own = L2.wipe s own) → Q s' H
def tGs (K : PySem.W.Frag) (f : List PyData → DS → Option DS) (is : List Nat) : TGs := fun vs s H Q =>
  ∃ r S h ds S', Rel K r S h s H ∧ TRs K (Lv r h) H vs ds ∧ f ds S = some S' ∧ ∀ s', Rel K r S' h s' H → (∀ own : List Nat, (∀ i ∈ is, i ∈ own) → L2.wipe s' own = L2.wipe s own) → Q s' H
def DG (X : Cx) (tg : Expr) (f : PyData → DS → Option DS) (is : List Nat) : Prop := PG X tg (tG X.K f is)
def DGs (X : Cx) (ts : List Expr) (f : List PyData → DS → Option DS) (is : List Nat) : Prop := PGs X ts (tGs X.K f is)
theorem PG.imp {X : Cx} {e : Expr} {t t' : TG} (p : PG X e t) (i : ∀ v s H Q, t' v s H Q → t v s H Q) : PG X e t' := ⟨fun a b c d v u Q I rv q => p.run a b c d v u Q I rv (i _ _ _ _ q)⟩
theorem PGs.imp {X : Cx} {e : List Expr} {t t' : TGs} (p : PGs X e t) (i : ∀ v s H Q, t' v s H Q → t v s H Q) : PGs X e t' := ⟨fun a b c d v u Q I rv q => p.run a b c d v u Q I rv (i _ _ _ _ q)⟩
def gN (i : Nat) : PyData → DS → Option DS := fun d S => some (S.set i (some (.t d)))
theorem dg_name {i : Nat} {x : Str} (hN : X.N.Nodup) (hi : X.N[i]? = some x) (hx : Loc X.env.scope x) (hf : X.fn x = true ∨ X.env.scope.names.lookup x = some .local := by first | exact .inl rfl | exact .inr rfl | assumption) : DG X (.Name x pos) (gN i) [i] :=
  PG.imp (pg_name hN hi hx hf) fun v s H Q ⟨r, S, h, d, S', R, t, e, q⟩ => by
    cases e
    exact q _ (R.set i (d := .t d) t) fun own ho => wipe_set (ho i (by simp))
def gsNil : List PyData → DS → Option DS
  | [], S => some S
  | _, _ => none
def gsCons (f : PyData → DS → Option DS) (fs : List PyData → DS → Option DS) : List PyData → DS → Option DS
  | d :: ds, S => (f d S).bind (fs ds)
  | _, _ => none
def gT (n : Nat) (fs : List PyData → DS → Option DS) : PyData → DS → Option DS
  | .tuple ds, S => if ds.length = n then fs ds S else none
  | _, _ => none
theorem dgs_nil : DGs X [] gsNil [] := PGs.imp pgs_nil fun vs s H Q ⟨r, S, h, ds, S', R, t, e, q⟩ => by
  cases ds with
  | nil => cases t; cases e; exact ⟨rfl, q _ R fun _ _ => rfl⟩
  | cons d ds => cases e
theorem dgs_cons {ts : List Expr} {f : PyData → DS → Option DS} {fs : List PyData → DS → Option DS} {is js : List Nat} (h1 : DG X e f is) (h2 : DGs X ts fs js) (hs : (assignEach (e :: ts) X.env).map (·.2) = assign e X.env :: (assignEach ts X.env).map (·.2) := by rfl) : DGs X (e :: ts) (gsCons f fs) (is ++ js) :=
  PGs.imp (pgs_cons h1 h2 hs) fun vs s H Q ⟨r, S, h, ds, S', R, t, e, q⟩ => by
    cases ds with
    | nil => cases e
    | cons d ds =>
      cases t with
      | cons a b =>
        cases z : f d S with
        | none => simp only [gsCons, z, Option.bind] at e; cases e
        | some S1 =>
          simp only [gsCons, z, Option.bind] at e
          exact ⟨_, _, rfl, r, S, h, d, S1, R, a, z, fun s' R' w => ⟨r, S1, h, ds, S', R', b, e, fun s2 R2 w2 => q s2 R2 fun own ho => (w2 own fun i hi => ho i (List.mem_append_right _ hi)).trans (w own fun i hi => ho i (List.mem_append_left _ hi))⟩⟩
theorem dg_tup {ts : List Expr} {k n : Nat} {fs : List PyData → DS → Option DS} {is : List Nat} (hc : X.calm = true) (h : DGs X ts fs is) (hn : (assignEach ts X.env).length = n := by rfl) (hst : (assignEach ts X.env).findIdx? (·.1) = none := by rfl) : DG X (.Tuple ts k pos) (gT n fs) is :=
  PG.imp (pg_tup hc h hn hst) fun v s H Q ⟨r, S, hh, d, S', R, t, e, q⟩ => by
    cases d with
    | tuple ds =>
      cases t with
      | tup e1 n1 t1 =>
        by_cases hl : ds.length = n
        · have e' : (if ds.length = n then fs ds S else none) = some S' := e
          rw [if_pos hl] at e'
          exact ⟨_, _, rfl, SqT.of e1, by rw [t1.length]; exact hl, r, S, hh, ds, S', R, t1, e', q⟩
        · have e' : (if ds.length = n then fs ds S else none) = some S' := e
          rw [if_neg hl] at e'
          cases e'
    | _ => cases e
/-! assignments -/
def sSet (i : Nat) (m : DS → M D) : SM := sB m fun d S h => some (.nx, S.set i (some d), h)
theorem ds_set {i : Nat} {x : Str} {pos' : Pos} (hN : X.N.Nodup) (hi : X.N[i]? = some x) (hx : Loc X.env.scope x) (he : DE X WE e m) (hs : swapsWith e (some (.Name x pos')) pos.line X.env = pure false := by rfl) (hf : X.fn x = true ∨ X.env.scope.names.lookup x = some .local := by first | exact .inl rfl | exact .inr rfl | assumption) : DSt X WE (.Assign [.Name x pos'] e pos) (sSet i m) :=
  PS.imp (ps_set hN hi hx he hs hf) fun Z s H ⟨r, S, h, R, p⟩ => ⟨r, S, h, R, p.sB.mono fun d r1 h1 H1 R1 E1 q v dv => q r1 _ H1 (R1.set i dv) .refl⟩
/-- target = value, a tree -/
def sAsg (f : PyData → DS → Option DS) (m : DS → M D) : SM := sB m fun d => sB (fun _ => fz d) fun z S h => match f z S with
  | some S' => some (.nx, S', h)
  | none => none
theorem ds_asg {tg : Expr} {f : PyData → DS → Option DS} {is : List Nat} (he : DE X WE e m) (hg : DG X tg f is) (hs : swapsWithSole [tg] e pos.line X.env = pure false := by rfl) (hw : swappedStores [tg] e X.env = pure none := by rfl) (h1 : (assignEach [tg] X.env).map (·.2) = [assign tg X.env] := by rfl) : DSt X WE (.Assign [tg] e pos) (sAsg f m) := by
  refine PS.imp (ps_asg he hg hs hw h1) fun Z s H ⟨r, S, h, R, q⟩ => ⟨r, S, h, R, q.sB.mono fun d r1 h1 H1 R1 E1 q v dv => ?_⟩
  obtain ⟨z, h2, R2, E2, z1, z2⟩ := fz_ok R1 dv q.sB
  cases z3 : f z S with
  | none => simp only [z3] at z2; exact False.elim z2
  | some S' =>
    simp only [z3] at z2
    exact ⟨r1, S, h2, z, S', R2, z1, z3, fun s' R' _ => z2 r1 s' H1 R' .refl⟩
/-- a, b = x, y -/
def sPar (i j : Nat) (ms : DS → M (List D)) : SM := sB ms fun ds S h => match ds with
  | [a, b] => some (.nx, (S.set i (some a)).set j (some b), h)
  | _ => none
theorem ds_par {i j : Nat} {x y : Str} {a b : Expr} {ms : DS → M (List D)} {px py pt : Pos} {kt k2 : Nat} {pt2 : Pos} (hc : X.calm = true) (hN : X.N.Nodup) (hi : X.N[i]? = some x) (hj : X.N[j]? = some y) (hij : i ≠ j) (hx : X.env.scope.names.lookup x = some .local) (hy : X.env.scope.names.lookup y = some .local) (ha : DA X WE [a, b] ms)
    (hw : swappedStores [.Tuple [.Name x px, .Name y py] kt pt] (.Tuple [a, b] k2 pt2) X.env = pure (some [x, y])) (hs : swapsWithSole [.Tuple [.Name x px, .Name y py] kt pt] (.Tuple [a, b] k2 pt2) pos.line X.env = pure false := by rfl) :
    DSt X WE (.Assign [.Tuple [.Name x px, .Name y py] kt pt] (.Tuple [a, b] k2 pt2) pos) (sPar i j ms) :=
  PS.imp (ps_par hc hN hi hj hij hx hy ha hw hs) fun Z s H ⟨r, S, h, R, p⟩ => ⟨r, S, h, R, p.sB.mono fun ds r1 h1 H1 R1 E1 q vs dvs => by
    cases dvs with
    | nil => exact False.elim q
    | cons a1 b1 => cases b1 with
      | nil => exact False.elim q
      | cons a2 b2 => cases b2 with
        | nil => exact ⟨_, _, rfl, q r1 _ H1 ((R1.set i a1).set j a2) .refl⟩
        | cons a3 b3 => exact False.elim q⟩
/-! xs[i] = e, xs live -/
theorem Rel.wr {K : PySem.W.Frag} {r : List Addr} {S : DS} {h : Hd} {s : St} {H : Hp} (R : Rel K r S h s H) {n : Nat} {a : Addr} {ds es : List PyData} {ys : List V} (e : h[n]? = some (.lst ds)) (q : r[n]? = some a) (t : TRs K (Lv r h) H ys es) :
    Rel K r S (h.set n (.lst es)) s (upd H a (.lst ys)) ∧ Ext r h H r (h.set n (.lst es)) (upd H a (.lst ys)) := by
  have hn : n < h.length := (List.getElem?_eq_some_iff.mp e).1
  have lv : ∀ b, Lv r (h.set n (.lst es)) b → Lv r h b := by
    rintro b ⟨m, c, m1, m2, m3⟩
    by_cases hm : n = m
    · subst hm
      exact ⟨n, _, m1, e, rfl⟩
    · rw [List.getElem?_set_ne hm] at m2
      exact ⟨m, c, m1, m2, m3⟩
  have la : Lv r h a := ⟨n, _, q, e, rfl⟩
  have E : Ext r h H r (h.set n (.lst es)) (upd H a (.lst ys)) := ⟨⟨[], by simp⟩, fun b o e' nl => ⟨by
    rw [upd_ne (fun z => nl (by rw [z]; exact la))]; exact e', fun l => nl (lv b l)⟩, fun _ _ _ n => n⟩
  refine ⟨⟨R.nd, by rw [R.len, List.length_set], fun m c b e' q' => ?_, R.slen, fun i d e' => ?_⟩, E⟩
  · by_cases hm : n = m
    · subst hm
      rw [List.getElem?_set_self hn] at e'
      cases e'
      rw [q] at q'; cases q'
      exact ⟨ys, upd_same, TRs.mono E.keep _ _ t⟩
    · rw [List.getElem?_set_ne hm] at e'
      have cr := R.cell m c b e' q'
      cases c with
      | lst fs =>
        obtain ⟨zs, y1, y2⟩ := cr
        refine ⟨zs, ?_, TRs.mono E.keep _ _ y2⟩
        rw [upd_ne fun z => hm (by subst z; exact nd_inj R.nd q q')]
        exact y1
      | gone d => exact TR.mono E.keep _ _ cr
  · obtain ⟨v, v1, v2⟩ := R.slot i d e'
    exact ⟨v, v1, v2.ext E⟩
def getC (n : Nat) : M (List PyData) := fun h => match h[n]? with
  | some (.lst ds) => some (.ok ds h)
  | _ => none
def setC (n : Nat) (ds : List PyData) : M Unit := fun h => some (.ok () (h.set n (.lst ds)))
def stIx (o i : D) (z : PyData) : M Unit := match o, i with
  | .c n, .t (.int k) => bd (getC n) fun ds => match ixN ds.length k with
    | some j => setC n (ds.set j z)
    | none => fail
  | _, _ => fail
def sSub (mo mi me : DS → M D) : SM := sB me fun d => sB (fun _ => fz d) fun z => sB mo fun o => sB mi fun i => sB (fun _ => stIx o i z) fun _ S h => some (.nx, S, h)
theorem ds_sub {o i : Expr} {mo mi : DS → M D} {tpos : Pos} (ho : DE X WE o mo) (hi : DE X WE i mi) (he : DE X WE e m) (ha : ∀ v, assign (.Subscript o i tpos) X.env v = (do let ov ← holding [v] (eval o X.env); let iv ← holding [v, ov] (eval i X.env); standAt tpos; holding [v, ov, iv] (setItem ov iv v); release [v, ov, iv] []) := by intro _; rfl)
    (hs : swapsWithSole [.Subscript o i tpos] e pos.line X.env = pure false := by rfl) (hw : swappedStores [.Subscript o i tpos] e X.env = pure none := by rfl) (h1 : (assignEach [.Subscript o i tpos] X.env).map (·.2) = [assign (.Subscript o i tpos) X.env] := by rfl) : DSt X WE (.Assign [.Subscript o i tpos] e pos) (sSub mo mi m) := by
  refine PS.imp (ps_asg he (pg_sub ho hi set_list ha) hs hw h1) fun Z s H ⟨r, S, h, R, q⟩ => ⟨r, S, h, R, q.sB.mono fun d r1 h1 H1 R1 E1 q v dv => ?_⟩
  obtain ⟨z, h2, R2, E2, z1, z2⟩ := fz_ok R1 dv q.sB
  refine ⟨r1, S, h2, R2, z2.sB.mono fun od r3 h3 H3 R3 E3 q3 ov dov => ⟨r3, S, h3, R3, q3.sB.mono fun id r4 h4 H4 R4 E4 q4 iv div => ?_⟩⟩
  have q5 := q4.sB (s := s)
  unfold stIx at q5
  cases od with
  | c n =>
    cases id with
    | t id =>
      cases id with
      | int k =>
        cases div
        obtain ⟨a, qa, rfl⟩ := dov.ext E4
        unfold bd getC at q5
        cases ec : h4[n]? with
        | none => simp only [ec] at q5; exact False.elim q5
        | some c =>
          cases c with
          | gone d => simp only [ec] at q5; exact False.elim q5
          | lst ds =>
            simp only [ec] at q5
            obtain ⟨xs, x1, x2⟩ := R4.cell n _ a ec qa
            cases ej : ixN ds.length k with
            | none => simp only [ej] at q5; exact False.elim q5
            | some j =>
              simp only [ej] at q5
              have zt : TR X.K (Lv r4 h4) H4 v z := TR.mono (E3.trans E4).keep _ _ z1
              obtain ⟨R5, E5⟩ := R4.wr ec qa (x2.set j zt)
              refine ⟨a, xs, k, j, rfl, rfl, x1, by rw [x2.length]; exact ej, ?_⟩
              exact (q5 r4 _ R5 E5) r4 s _ R5 .refl
      | _ => exact False.elim q5
    | _ => exact False.elim q5
  | _ => exact False.elim q5
end
end DL
set_option Elab.async false
set_option linter.all false
set_option maxRecDepth 100000
set_option maxHeartbeats 2000000
set_option autoImplicit false
namespace DL
open PySem PySem.Spec L2
open PyProof.Rows hiding St

section
variable {K : PySem.W.Frag} {WE : EW} {r r1 : List Addr} {S S2 : DS} {h h1 : Hd} {s s2 : St} {H H1 : Hp}
theorem Rel.forget (R : Rel K r S h s H) : Rel K r [] h [] H := ⟨R.nd, R.len, R.cell, rfl, fun i d e => by simp at e⟩
theorem Rel.move (R : Rel K r S h s H) (E : Ext r h H r1 h1 H1) (R2 : Rel K r1 S2 h1 s2 H1) : Rel K r1 S h1 s H1 :=
  ⟨R2.nd, R2.len, R2.cell, R.slen, fun i d e => by
    obtain ⟨v, a, b⟩ := R.slot i d e
    exact ⟨v, a, b.ext E⟩⟩
end

/-! while -/
def whileN (t : DS → M Bool) (b : SM) : Nat → SM
  | 0 => fun _ _ => none
  | n + 1 => sB t fun c => match c with
    | false => fun S h => some (.nx, S, h)
    | true => fun S h => match b S h with
      | some (.nx, S', h') => whileN t b n S' h'
      | some (.ct, S', h') => whileN t b n S' h'
      | some (.bk, S', h') => some (.nx, S', h')
      | x => x
def sWhile (n : Nat) (t : DS → M Bool) (b : SM) : SM := whileN t b n
section
variable {X : Cx} {WE : EW} {pos : Pos}
theorem ds_while (n : Nat) {c : Expr} {body : List Stmt} {t : DS → M Bool} {g : SM} (hp : PassesOwn (model X.prog X.w) X.A X.env X.xe) (hc : DT X WE c t) (hb : DSs X WE body g) : DSt X WE (.While c body [] pos) (sWhile n t g) :=
  PS.imp (ps_while hp hc hb) fun Z s H ⟨r, S, h, R, p⟩ => by
    refine ⟨fun m s H => ∃ r S h, Rel X.K r S h s H ∧ PostS X.K WE r h H (whileN t g m S h) (fun o r' _ h' s' H' => Fin X.K WE Z r' h' s' H' o), ⟨n, r, S, h, R, p⟩, ?_⟩
    rintro m s H ⟨r, S, h, R, p⟩
    cases m with
    | zero => exact False.elim p
    | succ m =>
      refine ⟨r, S, h, R, p.sB.mono fun b r1 h1 H1 R1 E1 q => ?_⟩
      cases b with
      | false => rw [if_neg (by simp)]; exact q r1 s H1 R1 .refl
      | true =>
        rw [if_pos rfl]
        refine ⟨fun s' H' => ∃ r S h, Rel X.K r S h s' H' ∧ PostS X.K WE r h H' (whileN t g m S h) (fun o r' _ h' s' H' => Fin X.K WE Z r' h' s' H' o), fun s' H' w => ⟨m, Nat.lt_succ_self m, w⟩, r1, S, h1, R1, ?_⟩
        simp only [] at q
        cases x : g S h1 with
        | none => rw [x] at q; exact q
        | some y =>
          obtain ⟨o, S', h'⟩ := y
          rw [x] at q
          cases o with
          | nx => exact fun r' s' H' R' E' => ⟨r', S', h', R', q.at E'⟩
          | ct => exact fun r' s' H' R' E' => ⟨r', S', h', R', q.at E'⟩
          | bk => exact fun r' s' H' R' E' => q r' s' H' R' E'
          | rt d => exact fun r' s' H' R' E' => q r' s' H' R' E'
          | er c p => exact fun r' s' H' R' E' => q r' s' H' R' E'

/-! what is walked: items that are known ahead -/
structure ItR (K : PySem.W.Frag) (its : List PyData) (J : It) (V : List Addr → Hd → Hp → Prop) : Prop where
  keep : ∀ r h H r' h' H', V r h H → Ext r h H r' h' H' → V r' h' H'
  go : ∀ r h H i, V r h H → i < its.length → J.go i H
  stop : ∀ r h H i, V r h H → its.length ≤ i → J.stop i H
  yld : ∀ r S h s H i d x H', V r h H → Rel K r S h s H → its[i]? = some d → J.yld i H x H' → Grow H H' ∧ TR K (Lv r h) H' x d
def tI (K : PySem.W.Frag) (WE : EW) (m : DS → M (List PyData)) : TI := fun s H Q => ∃ r S h, Rel K r S h s H ∧ Post K WE r S h s H (m S h) (fun its r' h' H' => ∀ J V H2, Grow H' H2 → V r' h' H2 → ItR K its J V → Q J H2)
def DI (X : Cx) (WE : EW) (tg iter : Expr) (m : DS → M (List PyData)) : Prop := PI X tg iter (tI X.K WE m)
theorem PI.imp {tg e : Expr} {t t' : TI} (p : PI X tg e t) (i : ∀ s H Q, t' s H Q → t s H Q) : PI X tg e t' := ⟨fun a b c d Q I q => p.run a b c d Q I (i _ _ _ q)⟩
/-- a list (tuple) that is a tree -/
def iSeq (m : DS → M D) : DS → M (List PyData) := fun S => bd (m S) fun d => match d with
  | .t (.list ds) => ret ds
  | _ => fail
def iTupl (m : DS → M D) : DS → M (List PyData) := fun S => bd (m S) fun d => match d with
  | .t (.tuple ds) => ret ds
  | _ => fail
theorem itr_list {K : PySem.W.Frag} {a : Addr} {xs : List V} {ds : List PyData} : ItR K ds (Itl K a) (fun r h H => H a = some (.lst xs) ∧ ¬ Lv r h a ∧ TRs K (Lv r h) H xs ds) where
  keep := fun r h H r' h' H' ⟨e, n, t⟩ E => ⟨(E.keep _ _ e n).1, (E.keep _ _ e n).2, TRs.mono E.keep _ _ t⟩
  go := fun r h H i ⟨e, n, t⟩ l => ⟨xs, xs[i]'(by rw [t.length]; exact l), SqL.of e, List.getElem?_eq_getElem _⟩
  stop := fun r h H i ⟨e, n, t⟩ l => ⟨xs, SqL.of e, by rw [t.length]; exact l⟩
  yld := fun r S h s H i d x H' ⟨e, n, t⟩ R q y => by
    obtain ⟨rfl, y2⟩ := y
    obtain ⟨v, v1, v2⟩ := t.get q
    have := y2 xs (SqL.of e)
    rw [v1] at this
    cases this
    exact ⟨Grow.refl, v2⟩
theorem itr_tup {K : PySem.W.Frag} {a : Addr} {xs : List V} {ds : List PyData} : ItR K ds (Itt K a) (fun r h H => H a = some (.tup xs) ∧ ¬ Lv r h a ∧ TRs K (Lv r h) H xs ds) where
  keep := fun r h H r' h' H' ⟨e, n, t⟩ E => ⟨(E.keep _ _ e n).1, (E.keep _ _ e n).2, TRs.mono E.keep _ _ t⟩
  go := fun r h H i ⟨e, n, t⟩ l => ⟨xs, xs[i]'(by rw [t.length]; exact l), SqT.of e, List.getElem?_eq_getElem _⟩
  stop := fun r h H i ⟨e, n, t⟩ l => ⟨xs, SqT.of e, by rw [t.length]; exact l⟩
  yld := fun r S h s H i d x H' ⟨e, n, t⟩ R q y => by
    obtain ⟨rfl, y2⟩ := y
    obtain ⟨v, v1, v2⟩ := t.get q
    have := y2 xs (SqT.of e)
    rw [v1] at this
    cases this
    exact ⟨Grow.refl, v2⟩
theorem di_list {tg l : Expr} {m : DS → M D} (hl : DE X WE l m) : DI X WE tg l (iSeq m) :=
  PI.imp (pi_list hl) fun s H Q ⟨r, S, h, R, p⟩ => ⟨r, S, h, R, p.bd.mono fun d r1 h1 H1 R1 E1 q v dv => by
    cases d with
    | t d =>
      cases d with
      | list ds =>
        cases dv with
        | lst e n t => exact ⟨_, rfl, ⟨_, SqL.of e⟩, q r1 H1 R1 .refl _ _ H1 Grow.refl ⟨e, n, t⟩ itr_list⟩
      | _ => exact False.elim q
    | _ => exact False.elim q⟩
theorem di_tup {tg l : Expr} {m : DS → M D} (hl : DE X WE l m) : DI X WE tg l (iTupl m) :=
  PI.imp (pi_tup hl) fun s H Q ⟨r, S, h, R, p⟩ => ⟨r, S, h, R, p.bd.mono fun d r1 h1 H1 R1 E1 q v dv => by
    cases d with
    | t d =>
      cases d with
      | tuple ds =>
        cases dv with
        | tup e n t => exact ⟨_, rfl, ⟨_, SqT.of e⟩, q r1 H1 R1 .refl _ _ H1 Grow.refl ⟨e, n, t⟩ itr_tup⟩
      | _ => exact False.elim q
    | _ => exact False.elim q⟩
/-- ranges -/
def rngD (lo : Int) (n : Nat) : List PyData := (List.range n).map fun (i : Nat) => .int (lo + (i : Int))
theorem itr_rng {K : PySem.W.Frag} {lo : Int} {n : Nat} : ItR K (rngD lo n) (Itr lo n) (fun _ _ _ => True) where
  keep := fun _ _ _ _ _ _ _ _ => trivial
  go := fun r h H i _ l => by simp [rngD] at l; exact l
  stop := fun r h H i _ l => by simp [rngD] at l; exact l
  yld := fun r S h s H i d x H' _ R q y => by
    obtain ⟨rfl, rfl⟩ := y
    unfold rngD at q
    rw [List.getElem?_map] at q
    have hi : i < n := by
      rcases Nat.lt_or_ge i n with z | z
      · exact z
      · rw [List.getElem?_eq_none (by simpa using z)] at q; cases q
    rw [List.getElem?_range hi] at q
    cases q
    exact ⟨Grow.refl, .int _⟩
def inR (i : Int) : Bool := decide (-(2 ^ 62) ≤ i ∧ i < 2 ^ 62)
def iRg1 (ms : DS → M (List D)) : DS → M (List PyData) := fun S => bd (ms S) fun ds => match ds with
  | [.t (.int j)] => if inR j then ret (rngD 0 j.toNat) else fail
  | _ => fail
def iRg2 (ms : DS → M (List D)) : DS → M (List PyData) := fun S => bd (ms S) fun ds => match ds with
  | [.t (.int i), .t (.int j)] => if inR i && inR j then ret (rngD i (j - i).toNat) else fail
  | _ => fail
theorem di_rg1 {tg a : Expr} {ms : DS → M (List D)} {p : Pos} (hg : Gl X "range") (hm : X.mg "range" = none) (ha : DA X WE [a] ms) (hs : starEach [a] X.env = [(false, eval a X.env)] := by rfl) : DI X WE tg (.Call (.Name "range" p) [a] [] pos) (iRg1 ms) :=
  PI.imp (pi_range1 hg hm ha hs) fun s H Q ⟨r, S, h, R, p⟩ => ⟨r, S, h, R, p.bd.mono fun ds r1 h1 H1 R1 E1 q vs dvs => by
    cases dvs with
    | nil => exact False.elim q
    | cons a1 b1 =>
      rename_i d1 ds1 v1 vs1
      cases b1 with
      | cons a2 b2 => cases d1 with
        | t d => cases d <;> exact False.elim q
        | _ => exact False.elim q
      | nil =>
        cases d1 with
        | t d =>
          cases d with
          | int j =>
            cases a1
            simp only [] at q
            by_cases hj : inR j = true
            · rw [if_pos hj] at q
              have hj2 := of_decide_eq_true hj
              exact ⟨j, rfl, hj2.1, hj2.2, q r1 H1 R1 .refl _ _ H1 Grow.refl trivial itr_rng⟩
            · rw [if_neg hj] at q; exact False.elim q
          | _ => exact False.elim q
        | _ => exact False.elim q⟩
theorem di_rg2 {tg a b : Expr} {ms : DS → M (List D)} {p : Pos} (hg : Gl X "range") (hm : X.mg "range" = none) (ha : DA X WE [a, b] ms) (hs : starEach [a, b] X.env = [(false, eval a X.env), (false, eval b X.env)] := by rfl) (hs2 : starEach [b] X.env = [(false, eval b X.env)] := by rfl) : DI X WE tg (.Call (.Name "range" p) [a, b] [] pos) (iRg2 ms) :=
  PI.imp (pi_range2 hg hm ha hs hs2) fun s H Q ⟨r, S, h, R, p⟩ => ⟨r, S, h, R, p.bd.mono fun ds r1 h1 H1 R1 E1 q vs dvs => by
    have q0 : ∃ i j, ds = [.t (.int i), .t (.int j)] ∧ inR i = true ∧ inR j = true ∧ Post X.K WE r1 S h1 s H1 (ret (rngD i (j - i).toNat) h1) (fun its r' h' H' => ∀ J V H2, Grow H' H2 → V r' h' H2 → ItR X.K its J V → Q J H2) := by
      split at q
      · rename_i i j
        by_cases hj : (inR i && inR j) = true
        · rw [if_pos hj] at q
          rw [Bool.and_eq_true] at hj
          exact ⟨i, j, rfl, hj.1, hj.2, q⟩
        · rw [if_neg hj] at q; exact False.elim q
      · exact False.elim q
    obtain ⟨i, j, rfl, hi, hj, q1⟩ := q0
    cases dvs with
    | cons a1 b1 => cases b1 with
      | cons a2 b2 =>
        cases b2
        cases a1; cases a2
        have hi2 := of_decide_eq_true hi
        have hj2 := of_decide_eq_true hj
        exact ⟨i, j, rfl, ⟨hi2.1, hi2.2, hj2.1, hj2.2⟩, q1 r1 H1 R1 .refl _ _ H1 Grow.refl trivial itr_rng⟩⟩
/-! for -/
def forL (f : PyData → DS → Option DS) (b : SM) : List PyData → SM
  | [] => fun S h => some (.nx, S, h)
  | d :: ds => fun S h => match f d S with
    | none => none
    | some S1 => match b S1 h with
      | some (.nx, S', h') => forL f b ds S' h'
      | some (.ct, S', h') => forL f b ds S' h'
      | some (.bk, S', h') => some (.nx, S', h')
      | x => x
def sFor (m : DS → M (List PyData)) (f : PyData → DS → Option DS) (b : SM) : SM := sB m fun its => forL f b its
theorem ds_for {tg iter : Expr} {body : List Stmt} {m : DS → M (List PyData)} {f : PyData → DS → Option DS} {is : List Nat} {b : SM} (hp : PassesOwn (model X.prog X.w) X.A X.env X.xe) (hc : X.calm = true) (hi : DI X WE tg iter m) (hg : DG X tg f is) (hb : DSs X WE body b) (hs : ∀ x, foldedSetIterable iter X.env x = pure x := by intro _; rfl) : DSt X WE (.For tg iter body [] pos) (sFor m f b) := by
  refine PS.imp (ps_for hp hc hi hg hb hs) fun Z s0 H0 ⟨r, S, h, R, p⟩ => ⟨r, S, h, R, p.sB.mono fun its r1 h1 H1 R1 E1 q J V H2 gr v0 it => ?_⟩
  refine ⟨fun i m s H => i + m = its.length ∧ ∃ r S h, Rel X.K r S h s H ∧ V r h H ∧ PostS X.K WE r h H (forL f b (its.drop i) S h) (fun o r' _ h' s' H' => Fin X.K WE Z r' h' s' H' o), ⟨its.length, Nat.zero_add _, r1, S, h1, R1.grow gr, v0, q.at (.grow gr)⟩, ?_⟩
  rintro i m s H ⟨hm, r, S, h, R, v, q⟩
  by_cases hl : i < its.length
  · refine .inr ⟨it.go _ _ _ i v hl, fun s' H' => ∃ r S h, Rel X.K r S h s' H' ∧ V r h H' ∧ PostS X.K WE r h H' (forL f b (its.drop (i + 1)) S h) (fun o r' _ h' s' H' => Fin X.K WE Z r' h' s' H' o), fun s' H' w => ⟨m - 1, by omega, by omega, w⟩, fun x H' y => ?_⟩
    rw [List.drop_eq_getElem_cons hl] at q
    obtain ⟨gr', t⟩ := it.yld r S h s H i _ x H' v R (List.getElem?_eq_getElem hl) y
    unfold forL at q
    cases e : f its[i] S with
    | none => simp only [e] at q; exact False.elim q
    | some S1 =>
      simp only [e] at q
      have E' : Ext r h H r h H' := .grow gr'
      have v' := it.keep _ _ _ _ _ _ v E'
      refine ⟨r, S, h, _, S1, R.grow gr', t, e, fun s' R' _ => ⟨r, S1, h, R', ?_⟩⟩
      have q' := q.at E'
      cases z : b S1 h with
      | none => rw [z] at q'; exact q'
      | some y =>
        obtain ⟨o, S', h'⟩ := y
        rw [z] at q'
        cases o with
        | nx => exact fun r2 s2 H2 R2 E2 => ⟨r2, S', h', R2, it.keep _ _ _ _ _ _ v' E2, q'.at E2⟩
        | ct => exact fun r2 s2 H2 R2 E2 => ⟨r2, S', h', R2, it.keep _ _ _ _ _ _ v' E2, q'.at E2⟩
        | bk => exact fun r2 s2 H2 R2 E2 => q' r2 s2 H2 R2 E2
        | rt d => exact fun r2 s2 H2 R2 E2 => q' r2 s2 H2 R2 E2
        | er c p => exact fun r2 s2 H2 R2 E2 => q' r2 s2 H2 R2 E2
  · rw [List.drop_eq_nil_of_le (by omega)] at q
    exact .inl ⟨it.stop _ _ _ i v (by omega), q r s H R .refl⟩
/-! list comprehensions -/
def wipeD (S : DS) : List Nat → DS
  | [] => S
  | v :: vs => (wipeD S vs).set v none
theorem Rel.wipe {K : PySem.W.Frag} {r : List Addr} {S : DS} {h : Hd} {s : St} {H : Hp} (R : Rel K r S h s H) : ∀ vs : List Nat, Rel K r (wipeD S vs) h (L2.wipe s vs) H
  | [] => R
  | v :: vs => by
    have R' := R.wipe vs
    refine ⟨R'.nd, R'.len, R'.cell, ?_, fun i d e => ?_⟩
    · show ((wipeD S vs).set v none).length = ((L2.wipe s vs).set v none).length
      rw [List.length_set, List.length_set]; exact R'.slen
    · have e' : ((wipeD S vs).set v none)[i]? = some (some d) := e
      have hv : v ≠ i := by
        intro z
        subst z
        by_cases hl : v < (wipeD S vs).length
        · rw [List.getElem?_set_self hl] at e'; cases e'
        · rw [List.getElem?_eq_none (by simpa using hl)] at e'; cases e'
      rw [List.getElem?_set_ne hv] at e'
      obtain ⟨u, u1, u2⟩ := R'.slot i d e'
      refine ⟨u, ?_, u2⟩
      show ((L2.wipe s vs).set v none)[i]? = some (some u)
      rw [List.getElem?_set_ne hv]; exact u1
def WEF : EW := fun _ _ _ _ _ _ => False
def DTs (X : Cx) (WE : EW) (ifs : List Expr) (t : DS → M Bool) : Prop := PTs X ifs (tDT X.K WE t)
def tYesD : DS → M Bool := fun _ => ret true
theorem dts_nil : DTs X WE [] tYesD := ⟨fun a b c d Q I ⟨r, S, h, R, p⟩ => pts_nil.run a b c d Q I (p r d R .refl)⟩
theorem dts_one {c : Expr} {t : DS → M Bool} (h : DT X WE c t) : DTs X WE [c] t := pts_one h
theorem wipe_len : ∀ (vs : List Nat) (s : St), (L2.wipe s vs).length = s.length
  | [], _ => rfl
  | v :: vs, s => by
    show ((L2.wipe s vs).set v none).length = _
    rw [List.length_set, wipe_len vs s]
theorem wipe_wipe (vs : List Nat) (s : St) : L2.wipe (L2.wipe s vs) vs = L2.wipe s vs := by
  have key : ∀ (ws : List Nat) (s : St), (∀ i ∈ ws, i ∈ vs) → L2.wipe (L2.wipe s ws) vs = L2.wipe s vs := by
    intro ws
    induction ws with
    | nil => intro s _; rfl
    | cons w ws ih =>
      intro s hw
      show L2.wipe ((L2.wipe s ws).set w none) vs = _
      rw [wipe_set (hw w List.mem_cons_self)]
      exact ih s fun i hi => hw i (List.mem_cons_of_mem _ hi)
  exact key vs s fun i hi => hi
theorem Lv.cut {r : List Addr} {h : Hd} {a : Addr} {k : Nat} (l : Lv (r.take k) (h.take k) a) : Lv r h a := by
  obtain ⟨n, c, e1, e2, e3⟩ := l
  rw [List.getElem?_take] at e1 e2
  split at e1
  · rename_i hk
    rw [if_pos hk] at e2
    exact ⟨n, c, e1, e2, e3⟩
  · cases e1
theorem Rel.cut {K : PySem.W.Frag} {r : List Addr} {S : DS} {h : Hd} {s : St} {H : Hp} (R : Rel K r S h s H) (k : Nat) : Rel K (r.take k) [] (h.take k) [] H := by
  have mono : ∀ a o, H a = some o → ¬ Lv r h a → H a = some o ∧ ¬ Lv (r.take k) (h.take k) a := fun a o e n => ⟨e, fun l => n l.cut⟩
  refine ⟨(List.take_sublist k r).nodup R.nd, by rw [List.length_take, List.length_take, R.len], fun n c a e q => ?_, rfl, fun i d e => by simp at e⟩
  rw [List.getElem?_take] at e q
  split at e
  · rename_i hk
    rw [if_pos hk] at q
    have cr := R.cell n c a e q
    cases c with
    | lst ds => obtain ⟨xs, x1, x2⟩ := cr; exact ⟨xs, x1, TRs.mono mono _ _ x2⟩
    | gone d => exact TR.mono mono _ _ cr
  · cases e
theorem Ext.cut {r : List Addr} {h : Hd} {H : Hp} {r1 : List Addr} {h1 : Hd} {H1 : Hp} (E : Ext r h H r1 h1 H1) {k : Nat} (hk : r.length ≤ k) : Ext r h H (r1.take k) (h1.take k) H1 := by
  obtain ⟨e, p⟩ := E.pre
  refine ⟨⟨e.take (k - r.length), ?_⟩, fun a o q n => ⟨(E.keep a o q n).1, fun l => (E.keep a o q n).2 l.cut⟩, fun a o q n m => E.new a o q n (List.mem_of_mem_take m)⟩
  rw [p, List.take_append, List.take_of_length_le hk]
theorem Post.slots {α : Type} {K : PySem.W.Frag} {r : List Addr} {S S1 : DS} {h : Hd} {s s1 : St} {H : Hp} {m : Option (Res α)} {G : α → List Addr → Hd → Hp → Prop} (R : Rel K r S h s H) (p : Post K WEF r S h s H m G) :
    Post K WEF r S1 h s1 H m (fun a r' h' H' => Rel K r' S h' s H' ∧ G a r' h' H') := by
  cases m with
  | none => exact p
  | some x => cases x with
    | ok a h' => exact fun r' H' R2 E => ⟨R.move E R2, p r' H' (R.move E R2) E⟩
    | err c q h' => exact fun r' H' R2 E => p r' H' (R.move E R2) E
def lcL (f : PyData → DS → Option DS) (t : DS → M Bool) (e : DS → M D) (own : List Nat) (S : DS) (n : Nat) : List PyData → M Unit
  | [] => ret ()
  | d :: ds => match f d (wipeD S own) with
    | none => fail
    | some S1 => bd (t S1) fun b => match b with
      | true => bd (e S1) fun y => bd (fz y) fun z => bd (getC n) fun acc => bd (if acc.length < sizeLine then setC n (acc ++ [z]) else fail) fun _ => lcL f t e own S n ds
      | false => lcL f t e own S n ds
def lcFin (c : Bool) (n : Nat) (h : Hd) : Option (Res D) := match h[n]? with
  | some (.lst ds) => (match c with
    | true => some (.ok (.c n) (h.take (n + 1)))
    | false => some (.ok (.t (.list ds)) (h.take n)))
  | _ => none
def lcRun (c : Bool) (m : M Unit) (n : Nat) (h : Hd) : Option (Res D) := match m h with
  | some (.ok _ h') => lcFin c n h'
  | _ => none
def dLc (c : Bool) (m : DS → M (List PyData)) (f : PyData → DS → Option DS) (t : DS → M Bool) (e : DS → M D) (own : List Nat) : DS → M D := fun S => bd (m S) fun its h => lcRun c (lcL f t e own S h.length its) h.length (h ++ [.lst []])
theorem lc_imp {c : Bool} {K : PySem.W.Frag} {m : DS → M (List PyData)} {f : PyData → DS → Option DS} {is own : List Nat} {t : DS → M Bool} {e : DS → M D} (hown : ∀ i ∈ is, i ∈ own) (s : St) (H : Hp) (Q : VK) :
    tD K WE (dLc c m f t e own) s H Q → tLc (tI K WE m) (tG K f is) (tDT K WEF t) (tD K WEF e) own s H Q := by
  rintro ⟨r, S, h, R, p⟩
  refine ⟨r, S, h, R, p.bd.mono fun its r1 h1 H1 R1 E1 q J V H2 gr v0 it A nA => ?_⟩
  have R2 := R1.grow gr
  have E2 : Ext r1 h1 H1 r1 h1 H2 := .grow gr
  obtain ⟨R3, E3⟩ := R2.alloc (p := A) (vs := []) (ds := []) .nil nA
  have rA : (r1 ++ [A])[h1.length]? = some A := by
    rw [← R1.len, List.getElem?_append_right (Nat.le_refl _), Nat.sub_self]
    rfl
  let Fq : Unit → List Addr → Hd → Hp → Prop := fun _ _ h' _ => ∃ d h'', lcFin c h1.length h' = some (.ok d h'') ∧ ∀ r'' H'', Rel K r'' S h'' s H'' → Ext r1 h1 H1 r'' h'' H'' → ∀ v, DR K r'' h'' H'' d v → Q v H''
  have q0 : Post K WEF (r1 ++ [A]) S (h1 ++ [.lst []]) s (upd H2 A (.lst [])) (lcL f t e own S h1.length its (h1 ++ [.lst []])) Fq := by
    unfold lcRun at q
    cases z : lcL f t e own S h1.length its (h1 ++ [.lst []]) with
    | none => rw [z] at q; exact False.elim q
    | some x => cases x with
      | err cc pp hh => rw [z] at q; exact False.elim q
      | ok u h' =>
        rw [z] at q
        intro r' H' R' E'
        simp only [] at q
        cases z2 : lcFin c h1.length h' with
        | none => rw [z2] at q; exact False.elim q
        | some y => cases y with
          | ok d h'' => rw [z2] at q; exact ⟨d, h'', z2, q⟩
          | err cc pp hh =>
            exfalso
            unfold lcFin at z2
            split at z2
            · cases c <;> cases z2
            · cases z2
  refine ⟨fun i k H => i + k = its.length ∧ ∃ r h, Rel K r S h s H ∧ V r h H ∧ r[h1.length]? = some A ∧ Ext r1 h1 H1 r h H ∧ Post K WEF r S h s H (lcL f t e own S h1.length (its.drop i) h) Fq,
    ⟨its.length, Nat.zero_add _, _, _, R3, it.keep _ _ _ _ _ _ v0 E3, rA, E2.trans E3, q0⟩, ?_⟩
  rintro i k H ⟨hk, r, h, R, v, hA, E, q⟩
  have hn : h1.length < h.length := by
    rw [← R.len]
    exact (List.getElem?_eq_some_iff.mp hA).1
  by_cases hl : i < its.length
  · refine .inr ⟨it.go _ _ _ i v hl, fun H => ∃ r h, Rel K r S h s H ∧ V r h H ∧ r[h1.length]? = some A ∧ Ext r1 h1 H1 r h H ∧ Post K WEF r S h s H (lcL f t e own S h1.length (its.drop (i + 1)) h) Fq, fun H' w => ⟨k - 1, by omega, by omega, w⟩, fun x H' y => ?_⟩
    rw [List.drop_eq_getElem_cons hl] at q
    obtain ⟨gr', tt⟩ := it.yld r S h s H i _ x H' v R (List.getElem?_eq_getElem hl) y
    unfold lcL at q
    cases e1 : f its[i] (wipeD S own) with
    | none => simp only [e1] at q; exact False.elim q
    | some S1 =>
      simp only [e1] at q
      have E4 : Ext r h H r h H' := .grow gr'
      have R4 := R.grow gr'
      have v4 := it.keep _ _ _ _ _ _ v E4
      refine ⟨r, wipeD S own, h, _, S1, R4.wipe own, tt, e1, fun s' R5 w5 => ⟨(w5 own hown).trans (wipe_wipe own s), r, S1, h, R5, ?_⟩⟩
      have q1 := (Post.slots (S1 := S1) (s1 := s') R4 (q.at E4).bd)
      refine q1.mono fun b r6 h6 H6 R6 E6 ⟨R6', q6⟩ => ?_
      have A6 : r6[h1.length]? = some A := by
        obtain ⟨l6, p6⟩ := E6.pre
        rw [p6, List.getElem?_append_left (by rw [R.len]; exact hn)]
        exact hA
      cases b with
      | false =>
        simp only []
        rw [if_neg (by simp)]
        exact ⟨r6, h6, R6', it.keep _ _ _ _ _ _ v4 E6, A6, (E.trans E4).trans E6, q6⟩
      | true =>
        simp only []
        rw [if_pos trivial]
        refine ⟨r6, S1, h6, R6, (Post.slots (S1 := S1) (s1 := s') R6' q6.bd).mono fun y r7 h7 H7 R7 E7 ⟨R7', q7⟩ yv dy => ?_⟩
        obtain ⟨z, h8, R8, E8, z1, z2⟩ := fz_ok R7' dy q7.bd
        have A7 : r7[h1.length]? = some A := by
          obtain ⟨l7, p7⟩ := E7.pre
          rw [p7, List.getElem?_append_left (List.getElem?_eq_some_iff.mp A6).1]
          exact A6
        have z3 := z2.bd
        unfold getC at z3
        cases ec : h8[h1.length]? with
        | none => simp only [ec] at z3; exact False.elim z3
        | some cc =>
          cases cc with
          | gone d => simp only [ec] at z3; exact False.elim z3
          | lst acc =>
            simp only [ec] at z3
            have z4 := (z3 r7 H7 R8 .refl).bd
            obtain ⟨xs, x1, x2⟩ := R8.cell _ _ A ec A7
            by_cases ha : acc.length < sizeLine
            · rw [if_pos ha] at z4
              obtain ⟨R9, E9⟩ := R8.wr ec A7 (x2.append (.cons z1 .nil))
              refine ⟨xs, x1, by rw [x2.length]; exact ha, r7, _, R9, it.keep _ _ _ _ _ _ v4 (((E6.trans E7).trans E8).trans E9), A7, ((((E.trans E4).trans E6).trans E7).trans E8).trans E9, ?_⟩
              exact z4 r7 _ R9 E9
            · rw [if_neg ha] at z4; exact False.elim z4
  · rw [List.drop_eq_nil_of_le (by omega)] at q
    refine .inl ⟨it.stop _ _ _ i v (by omega), ?_⟩
    obtain ⟨d, h'', z1, z2⟩ := q r H R .refl
    unfold lcFin at z1
    cases ec : h[h1.length]? with
    | none => rw [ec] at z1; cases z1
    | some cc =>
      cases cc with
      | gone d => rw [ec] at z1; cases z1
      | lst ds =>
        simp only [ec] at z1
        obtain ⟨xs, x1, x2⟩ := R.cell _ _ A ec hA
        cases c with
        | true =>
          cases z1
          have EE := E.cut (k := h1.length + 1) (by rw [R1.len]; omega)
          have RR := R1.move EE (R.cut (h1.length + 1))
          refine z2 _ H RR EE _ ⟨A, ?_, rfl⟩
          rw [List.getElem?_take, if_pos (by omega)]
          exact hA
        | false =>
          cases z1
          have EE := E.cut (k := h1.length) (by rw [R1.len]; omega)
          have RR := R1.move EE (R.cut h1.length)
          refine z2 _ H RR EE _ (.lst x1 (fun l => ?_) (TRs.mono (fun a o e n => ⟨e, fun l => n l.cut⟩) _ _ x2))
          obtain ⟨m, cc, m1, m2, m3⟩ := l
          rw [List.getElem?_take] at m1
          split at m1
          · have := nd_inj R.nd m1 hA
            omega
          · cases m1
theorem de_lc (c : Bool) {elt tg iter : Expr} {ifs : List Expr} {scope : Scope} {own : List (Str × Nat)} {pos : Pos} {m : DS → M (List PyData)} {f : PyData → DS → Option DS} {is : List Nat} {t : DS → M Bool} {e : DS → M D} (hc : X.calm = true) (hN : X.N.Nodup) (hi : DI X WE tg iter m) (ok : BlkOk X.N X.env.scope scope own)
    (hg : ∀ (s : Shared) (H : Hp) (C : Addr) (cl : List (Str × Addr)) (fp : List Addr), DG (X.blk s H scope (compEnvC scope cl C X.env) fp) tg f is)
    (ht : ∀ (s : Shared) (H : Hp) (C : Addr) (cl : List (Str × Addr)) (fp : List Addr), DTs (X.blk s H scope (compEnvC scope cl C X.env) fp) WEF ifs t)
    (he : ∀ (s : Shared) (H : Hp) (C : Addr) (cl : List (Str × Addr)) (fp : List Addr), DE (X.blk s H scope (compEnvC scope cl C X.env) fp) WEF elt e)
    (hown : ∀ i ∈ is, i ∈ own.map (·.2)) (hs : ∀ x, foldedSetIterable iter X.env x = pure x := by intro _; rfl) : DE X WE (.ListComp elt [⟨tg, iter, ifs, 0⟩] scope pos) (dLc c m f t e (own.map (·.2))) :=
  PE.imp (pe_lc (g := tG X.K f is) (tt := tDT X.K WEF t) (te := tD X.K WEF e) hc hN hi ok hg ht he hs) (lc_imp hown)
theorem ds_setLc (c : Bool) {i : Nat} {y : Str} {py spos : Pos} {elt tg iter : Expr} {ifs : List Expr} {scope : Scope} {own : List (Str × Nat)} {pos : Pos} {m : DS → M (List PyData)} {f : PyData → DS → Option DS} {is : List Nat} {t : DS → M Bool} {e : DS → M D} (hc : X.calm = true) (hN : X.N.Nodup) (hy : X.N[i]? = some y) (hyl : X.env.scope.names.lookup y = some .local)
    (hsw : swapsWith (.ListComp elt [⟨tg, iter, ifs, 0⟩] scope pos) (some (.Name y py)) spos.line X.env = pure true) (hi : DI X WE tg iter m) (ok : BlkOk X.N X.env.scope scope own)
    (hg : ∀ (s : Shared) (H : Hp) (C : Addr) (cl : List (Str × Addr)) (fp : List Addr), DG (X.blk s H scope (compEnvC scope cl C X.env) fp) tg f is)
    (ht : ∀ (s : Shared) (H : Hp) (C : Addr) (cl : List (Str × Addr)) (fp : List Addr), DTs (X.blk s H scope (compEnvC scope cl C X.env) fp) WEF ifs t)
    (he : ∀ (s : Shared) (H : Hp) (C : Addr) (cl : List (Str × Addr)) (fp : List Addr), DE (X.blk s H scope (compEnvC scope cl C X.env) fp) WEF elt e)
    (hown : ∀ i ∈ is, i ∈ own.map (·.2)) (hs : ∀ x, foldedSetIterable iter X.env x = pure x := by intro _; rfl) : DSt X WE (.Assign [.Name y py] (.ListComp elt [⟨tg, iter, ifs, 0⟩] scope pos) spos) (sSet i (dLc c m f t e (own.map (·.2)))) :=
  PS.imp (ps_setLc (g := tG X.K f is) (tt := tDT X.K WEF t) (te := tD X.K WEF e) hc hN hy hyl hsw hi ok hg ht he hs) fun Z s H ⟨r, S, h, R, p⟩ => lc_imp hown s H _ ⟨r, S, h, R, p.sB.mono fun d r1 h1 H1 R1 E1 q v dv => q r1 _ H1 (R1.set i dv) .refl⟩
end
end DL
set_option Elab.async false
set_option linter.all false
set_option maxRecDepth 100000
set_option maxHeartbeats 2000000
set_option autoImplicit false
namespace DL
open PySem PySem.Spec L2
open PyProof.Rows hiding St

/-- how a refusal lies: its class, its own dict with the refused value -/
def ErrR (K : PySem.W.Frag) (r : List Addr) (h : Hd) (H : Hp) (c : Str) (p : D) (cls : Value) (d : Option Addr) : Prop :=
  cls = .ref (He.ga K c) ∧ ∃ dd v, d = some dd ∧ H dd = some (.xd [(("value" : Str), v)]) ∧ DR K r h H p v
/-- the layer's wish about exceptions, as HandS has it -/
def wx (K : PySem.W.Frag) (WE : EW) : WX := fun cls d s H => ∃ c p r h S, Rel K r S h s H ∧ ErrR K r h H c p cls d ∧ WE c p r h s H
def PostF (K : PySem.W.Frag) (r : List Addr) (h : Hd) (H : Hp) (m : Option (Res D)) (Q : VK) (E : XK) : Prop := match m with
  | none => False
  | some (.ok d h') => ∀ r' H' v, Rel K r' [] h' [] H' → Ext r h H r' h' H' → DR K r' h' H' d v → Q v H'
  | some (.err c p h') => ∀ r' H' cls d, Rel K r' [] h' [] H' → Ext r h H r' h' H' → ErrR K r' h' H' c p cls d → E cls d H'
/-- a def of the text does what F says -/
structure FnG (P : Program) (w : World) (K : PySem.W.Frag) (mg : Str → Option Value) (base : Heap) (k : Nat) (f : Addr) (fd : FuncData) (ps : List Str) (F : List D → M D) : Prop where
  run : ∀ (A : Around) (outer : List Env) (s : Shared) (H : Hp) (args : Args) (us : List Value) (vs : List V) (r : List Addr) (h : Hd) (ds : List D) (Q : VK) (E : XK),
    Room k A → A.guards = some [] → Env0 P w K mg base A outer s H → us.length = ps.length → BindsTo s fd args (ps.zip us) → Vals vs us → Rel K r [] h [] H → DRs K r h H ds vs → PostF K r h H (F ds h) Q E →
    codeAny (model P w) A (.call (.ref f) args) (CR (L2.CX P w) outer P w H s Q E) s
theorem FnG.mono {P : Program} {w : World} {K : PySem.W.Frag} {mg : Str → Option Value} {base : Heap} {j k : Nat} {f : Addr} {fd : FuncData} {ps : List Str} {F : List D → M D} (G : FnG P w K mg base j f fd ps F) (h : j ≤ k) : FnG P w K mg base k f fd ps F :=
  ⟨fun A outer s H args us vs r hh ds Q E hr => G.run A outer s H args us vs r hh ds Q E (hr.mono h)⟩
theorem DRs.length {K : PySem.W.Frag} {r : List Addr} {h : Hd} {H : Hp} {ds : List D} {vs : List V} (x : DRs K r h H ds vs) : ds.length = vs.length := by
  induction x with
  | nil => rfl
  | cons _ _ ih => simp [ih]
theorem DRs.get {K : PySem.W.Frag} {r : List Addr} {h : Hd} {H : Hp} : ∀ {ds : List D} {vs : List V} {i : Nat} {d : D}, DRs K r h H ds vs → ds[i]? = some d → ∃ v, vs[i]? = some v ∧ DR K r h H d v
  | _, _, _, _, .nil, e => by simp at e
  | _, _, 0, _, .cons a _, e => by simp at e; subst e; exact ⟨_, rfl, a⟩
  | _, _, i + 1, _, .cons _ b, e => by
    obtain ⟨v, h1, h2⟩ := DRs.get (i := i) b (by simpa using e)
    exact ⟨v, by simpa using h1, h2⟩
def startD (n : Nat) (ds : List D) : DS := ds.map some ++ List.replicate (n - ds.length) none
/-- a def's answer leaves its own things behind; c: its own live list may be handed on -/
def outD (c : Bool) (k : Nat) (h : Hd) : D → Option (D × Hd)
  | .c n => if n < k then some (.c n, h.take k) else (match h[n]? with
    | some (.lst ds) => (match c with
      | true => some (.c k, h.take k ++ [.lst ds])
      | false => some (.t (.list ds), h.take k))
    | some (.gone t) => some (.t t, h.take k)
    | none => none)
  | d => some (d, h.take k)
def finD (c : Bool) (k : Nat) : Out × DS × Hd → Option (Res D)
  | (.rt d, _, h) => (outD c k h d).map fun d => .ok d.1 d.2
  | (.nx, _, h) => some (.ok (.t .none) (h.take k))
  | (.er e p, _, h) => (outD false k h p).map fun p => .err e p.1 p.2
  | _ => none
def runF (c : Bool) (n : Nat) (g : SM) : List D → M D := fun ds h => (g (startD n ds) h).bind (finD c h.length)
section
variable {K : PySem.W.Frag} {r r1 : List Addr} {S : DS} {h h1 : Hd} {s : St} {H H1 : Hp}
/-- a live list beside the first k -/
theorem Rel.pick (R : Rel K r S h s H) {k n : Nat} {ds : List PyData} {a : Addr} (hk : k ≤ n) (e : h[n]? = some (.lst ds)) (q : r[n]? = some a) : Rel K (r.take k ++ [a]) [] (h.take k ++ [.lst ds]) [] H ∧ ∀ b, Lv (r.take k ++ [a]) (h.take k ++ [.lst ds]) b → Lv r h b := by
  have hn : n < h.length := (List.getElem?_eq_some_iff.mp e).1
  have lr : (r.take k).length = k := by rw [List.length_take, R.len]; omega
  have lh : (h.take k).length = k := by rw [List.length_take]; omega
  have C := R.cut k
  have sub : ∀ b, Lv (r.take k ++ [a]) (h.take k ++ [.lst ds]) b → Lv r h b := by
    rintro b ⟨m, c, m1, m2, m3⟩
    by_cases hm : m < k
    · rw [List.getElem?_append_left (by omega)] at m1 m2
      exact Lv.cut ⟨m, c, m1, m2, m3⟩
    · rw [List.getElem?_append_right (by omega)] at m1 m2
      rw [lr] at m1
      have h0 : m - k = 0 := by
        rcases Nat.eq_zero_or_pos (m - k) with z | z
        · exact z
        · rw [List.getElem?_eq_none (by simp; omega)] at m1; cases m1
      rw [h0] at m1
      simp at m1
      subst m1
      exact ⟨n, _, q, e, rfl⟩
  have mono : ∀ x o, H x = some o → ¬ Lv r h x → H x = some o ∧ ¬ Lv (r.take k ++ [a]) (h.take k ++ [.lst ds]) x := fun x o e n => ⟨e, fun l => n (sub x l)⟩
  refine ⟨⟨?_, by simp [C.len], fun m c b e' q' => ?_, rfl, fun i d e' => by simp at e'⟩, sub⟩
  · refine List.nodup_append.mpr ⟨C.nd, by simp, fun x hx y hy => ?_⟩
    simp at hy
    subst hy
    intro z
    subst z
    obtain ⟨m, hm, e3⟩ := List.getElem_of_mem hx
    have e4 : r[m]? = some x := by
      have := List.getElem?_eq_getElem hm
      rw [e3, List.getElem?_take] at this
      split at this
      · exact this
      · cases this
    have := nd_inj R.nd e4 q
    omega
  · by_cases hm : m < k
    · rw [List.getElem?_append_left (by omega), List.getElem?_take, if_pos hm] at e' q'
      have cr := R.cell m c b e' q'
      cases c with
      | lst es => obtain ⟨ys, y1, y2⟩ := cr; exact ⟨ys, y1, TRs.mono mono _ _ y2⟩
      | gone d => exact TR.mono mono _ _ cr
    · rw [List.getElem?_append_right (by omega)] at e' q'
      rw [lh] at e'
      rw [lr] at q'
      have h0 : m - k = 0 := by
        rcases Nat.eq_zero_or_pos (m - k) with z | z
        · exact z
        · rw [List.getElem?_eq_none (by simp; omega)] at e'; cases e'
      rw [h0] at e' q'
      simp at e' q'
      subst e'; subst q'
      obtain ⟨ys, y1, y2⟩ := R.cell n _ a e q
      exact ⟨ys, y1, TRs.mono mono _ _ y2⟩
theorem outD_ok {c : Bool} {k : Nat} {d : D} {p : D × Hd} {v : V} {r0 : List Addr} {h0 : Hd} {H0 : Hp} (R : Rel K r S h s H) (E : Ext r0 h0 H0 r h H) (hk : r0.length = k) (x : DR K r h H d v) (e : outD c k h d = some p) : ∃ r', Rel K r' [] p.2 [] H ∧ Ext r0 h0 H0 r' p.2 H ∧ DR K r' p.2 H p.1 v := by
  have mono : ∀ a o, H a = some o → ¬ Lv r h a → H a = some o ∧ ¬ Lv (r.take k) (h.take k) a := fun a o e n => ⟨e, fun l => n l.cut⟩
  have C := R.cut k
  have EC := E.cut (k := k) (by omega)
  cases d with
  | t d => cases e; exact ⟨_, C, EC, TR.mono mono _ _ x⟩
  | s ns =>
    cases e
    obtain ⟨a, rfl, q⟩ := x
    exact ⟨_, C, EC, a, rfl, q.mono mono⟩
  | k u => cases e; exact ⟨_, C, EC, x⟩
  | c n =>
    obtain ⟨a, q, rfl⟩ := x
    simp only [outD] at e
    split at e
    · rename_i hk
      cases e
      exact ⟨_, C, EC, a, by rw [List.getElem?_take, if_pos hk]; exact q, rfl⟩
    · rename_i hnk
      cases ec : h[n]? with
      | none => rw [ec] at e; cases e
      | some cc =>
        rw [ec] at e
        have cr := R.cell n cc a ec q
        cases cc with
        | lst ds =>
          cases c with
          | true =>
            cases e
            obtain ⟨P, sub⟩ := R.pick (k := k) (Nat.le_of_not_lt hnk) ec q
            refine ⟨_, P, ⟨?_, fun b o e1 e2 => ⟨(E.keep b o e1 e2).1, fun l => (E.keep b o e1 e2).2 (sub b l)⟩, fun b o e1 e2 m => ?_⟩, a, ?_, rfl⟩
            · obtain ⟨l, pl⟩ := EC.pre
              exact ⟨l ++ [a], by rw [pl, List.append_assoc]⟩
            · rcases List.mem_append.mp m with m | m
              · exact EC.new b o e1 e2 m
              · simp at m
                subst m
                exact E.new b o e1 e2 (List.mem_of_getElem? q)
            · have lr : (r.take k).length = k := by
                rw [List.length_take, R.len]
                have := (List.getElem?_eq_some_iff.mp ec).1
                omega
              rw [List.getElem?_append_right (by omega), lr, Nat.sub_self]
              rfl
          | false =>
            cases e
            obtain ⟨xs, x1, x2⟩ := cr
            refine ⟨_, C, EC, (show TR K _ H (.ref a) (.list ds) from .lst x1 (fun l => ?_) (TRs.mono mono _ _ x2))⟩
            obtain ⟨m, cc, m1, m2, m3⟩ := l
            rw [List.getElem?_take] at m1
            split at m1
            · have := nd_inj R.nd m1 q
              omega
            · cases m1
        | gone t => cases e; exact ⟨_, C, EC, TR.mono mono _ _ cr⟩
theorem start_rel {N : List Str} {ds : List D} {vs : List V} (R : Rel K r [] h [] H) (x : DRs K r h H ds vs) : Rel K r (startD N.length ds) h (L2.start N vs) H := by
  have hl := x.length
  refine ⟨R.nd, R.len, R.cell, ?_, fun i d e => ?_⟩
  · unfold startD L2.start
    rw [List.length_append, List.length_append, List.length_map, List.length_map, List.length_replicate, List.length_replicate, hl]
  · unfold startD at e
    unfold L2.start
    by_cases hi : i < ds.length
    · rw [List.getElem?_append_left (by rw [List.length_map]; exact hi), List.getElem?_map] at e
      rw [List.getElem?_append_left (by rw [List.length_map]; omega), List.getElem?_map]
      cases q : ds[i]? with
      | none => rw [q] at e; cases e
      | some d' =>
        rw [q] at e
        cases e
        obtain ⟨v, e1, e2⟩ := x.get q
        exact ⟨v, by rw [e1]; rfl, e2⟩
    · rw [List.getElem?_append_right (by rw [List.length_map]; omega), List.getElem?_replicate] at e
      split at e <;> cases e
end
theorem guards_deeper {A : Around} {env : Env} (h : A.guards = some []) : (A.deeper env).guards = some [] := by
  obtain ⟨hd, d, fr, gs, u⟩ := A
  have h' : gs = some [] := h
  subst h'
  rfl
/-- a def by its body -/
theorem fn_g (c : Bool) {P : Program} {w : World} {K : PySem.W.Frag} {mg : Str → Option Value} {base : Heap} {k : Nat} {f : Addr} {fd : FuncData} {x qual : Str} {params : Arguments} {body : List Stmt} {scope : Scope} {dvs : List V} {kws : List (Str × V)} {N ps : List Str} {g : SM}
    (F : FunD K x qual params body scope dvs kws f fd) (S : FnScope N ps scope)
    (hb : ∀ (cdv : Value) (A : Around) (outer : List Env) (s : Shared) (H : Hp) (E : XK) (WE : EW), Room k (A.deeper (envOfC qual scope s.heap.objs.size f cdv)) → (A.deeper (envOfC qual scope s.heap.objs.size f cdv)).guards = some [] →
      Takes (cxOf (L2.CX P w) P w K mg base N qual scope f cdv A outer s H E) (wx K WE) → DSs (cxOf (L2.CX P w) P w K mg base N qual scope f cdv A outer s H E) WE body g) :
    FnG P w K mg base (k + 1) f fd ps (runF c N.length g) := by
  obtain ⟨oc, od, dV, kV, doc, pm, an, cdv, ct, osl, rfl, lk, hcd, _, _⟩ := F.ex
  refine ⟨fun A outer s H args us vs r h ds Q E hr hg e0 hl bt rv R dv pf => ?_⟩
  have hl2 : vs.length = ps.length := by rw [rv.length, hl]
  have kin : K.In s.heap := e0.mod.kin.keeps fun b o q => (e0.bs b o q).1
  have nol : s.heap.NoLimit := e0.mod.nolimit.keeps fun b o q => (e0.bs b o q).1
  have kinds : ∀ y ∈ ps.zip us, scope.names.lookup y.1 = some .local ∨ (scope.names.lookup y.1 = some .cell ∧ ((cellsFrom (s.heap.objs.size + 1) scope.names []).lookup y.1).isSome = true) := by
    rintro ⟨n, v⟩ hy
    cases S.par n (List.of_mem_zip hy).1 with
    | inl q => exact Or.inl q
    | inr q => exact Or.inr ⟨q, PySem.W.cellsFrom_some _ _ _ (Or.inl q)⟩
  refine codeAny_call_function hr.depth (kin _ _ lk) rfl S.co S.gen rfl (PySem.W.codeRec_of kin hcd) (bt _ _ _ _ (wpAny_newFunctionEnv_cells S.kind kinds ?_))
  rintro env rfl s1 hx
  refine ⟨nol.keeps hx.toInCall.keep, codeAny_func ?_⟩
  have J := inv_start (CX := L2.CX P w) (E := E) S hr.hd e0 hl2 rv hx
  have R0 := start_rel (N := N) R dv
  have hbody := hb cdv A outer s H E (fun c p r' h' s' H' => ∀ cls d, ErrR K r' h' H' c p cls d → E cls d H') (hr.deeper _) (guards_deeper hg)
    (Takes.imp (takes_of rfl rfl rfl rfl) fun cls d s' H' ⟨c, p, r', h', S', _, e1, e2⟩ => e2 cls d e1)
  have post : PostS K (fun c p r' h' s' H' => ∀ cls d, ErrR K r' h' H' c p cls d → E cls d H') r h H (g (startD N.length ds) h) (fun o r' _ h' s' H' => Fin K (fun c p r' h' s' H' => ∀ cls d, ErrR K r' h' H' c p cls d → E cls d H') { nx := fun _ H' => Q .non H', rt := Q } r' h' s' H' o) := by
    unfold runF at pf
    cases z : g (startD N.length ds) h with
    | none => rw [z] at pf; exact pf
    | some y =>
      obtain ⟨o, S', h'⟩ := y
      rw [z] at pf
      intro r' s' H' R' E'
      cases o with
      | nx => exact pf _ H' .non (R'.cut h.length) (E'.cut (k := h.length) (by rw [R.len]; exact Nat.le_refl _)) .non
      | rt d =>
        intro v dvv
        cases q : outD c h.length h' d with
        | none => simp only [finD, q, Option.bind, Option.map] at pf; exact False.elim pf
        | some d' =>
          simp only [finD, q, Option.bind, Option.map] at pf
          obtain ⟨r'', R3, E3, D3⟩ := outD_ok R' E' R.len dvv q
          exact pf r'' H' v R3 E3 D3
      | bk => exact pf
      | ct => exact pf
      | er e p =>
        intro cls d er
        cases q : outD false h.length h' p with
        | none => simp only [finD, q, Option.bind, Option.map] at pf; exact False.elim pf
        | some p' =>
          simp only [finD, q, Option.bind, Option.map] at pf
          obtain ⟨e1, dd, v, e2, e3, e4⟩ := er
          obtain ⟨r'', R3, E3, D3⟩ := outD_ok R' E' R.len e4 q
          exact pf r'' H' cls d R3 E3 ⟨e1, dd, v, e2, e3, D3⟩
  refine wpAny_mono (hbody.run [] s1 (L2.start N vs) H _ J ⟨r, startD N.length ds, h, R0, post⟩) (fun fl s' hs => ?_) fun e s' hs => hs
  cases fl with
  | next =>
    obtain ⟨t, H', I, q⟩ := hs
    exact ⟨.non, H', I.os, I.bare, I.base, I.hok, rfl, q⟩
  | ret u =>
    obtain ⟨v, t, H', I, rv', q⟩ := hs
    exact ⟨v, H', I.os, I.bare, I.base, I.hok, rv', q⟩
  | brk =>
    obtain ⟨_, _, _, q⟩ := hs
    exact q.elim
  | cont =>
    obtain ⟨_, _, _, q⟩ := hs
    exact q.elim
/-! calls of defs -/
def dCall (F : List D → M D) (ms : DS → M (List D)) : DS → M D := fun S => bd (ms S) F
/-- g: how positional and keyword values lie by the parameters -/
def dCallK (F : List D → M D) (g : List D → List D → List D) (ms ks : DS → M (List D)) : DS → M D := fun S => bd (ms S) fun a => bd (ks S) fun b => F (g a b)
section
variable {X : Cx} {WE : EW} {k : Nat} {f : Addr} {fd : FuncData} {ps : List Str} {F : List D → M D} {x : Str} {p pos : Pos}
theorem post_call {r : List Addr} {S : DS} {h : Hd} {s : St} {H : Hp} {m : Option (Res D)} {Q : VK} (R : Rel X.K r S h s H) (q : Post X.K WE r S h s H m (fun d r' h' H' => ∀ v, DR X.K r' h' H' d v → Q v H')) :
    PostF X.K r h H m Q (fun cls d H' => wx X.K WE cls d s H') := by
  cases m with
  | none => exact q
  | some y => cases y with
    | ok d h' => exact fun r' H' v R' E' dv => q r' H' (R.move E' R') E' v dv
    | err c z h' => exact fun r' H' cls d R' E' er => ⟨c, z, r', h', S, R.move E' R', er, q r' H' (R.move E' R') E'⟩
theorem run_g {pins : List (Addr × Obj)} {s : Shared} {σ : St} {H : Hp} {r : List Addr} {S : DS} {h : Hd} {args : Args} {us : List Value} {vs : List V} {ds : List D} {Q : VK} (G : FnG X.prog X.w X.K X.mg X.base k f fd ps F) (hr : Room k X.A) (hgd : X.A.guards = some []) (tk : Takes X (wx X.K WE))
    (I : Inv X pins σ H s) (R : Rel X.K r S h σ H) (hl : us.length = ps.length) (bt : BindsTo s fd args (ps.zip us)) (rv : Vals vs us) (dv : DRs X.K r h H ds vs) (q : Post X.K WE r S h σ H (F ds h) (fun d r' h' H' => ∀ v, DR X.K r' h' H' d v → Q v H')) :
    codeAny (model X.prog X.w) X.A (.call (.ref f) args) (fun res s' => match res with
      | .ok (.ret u) => EP X pins σ Q u s'
      | .ok _ => False
      | .error e => X.xe e s') s := by
  refine codeAny_mono (G.run X.A X.stack s H args us vs r h ds Q _ hr hgd I.env0 hl bt rv R.forget dv (post_call R q)) fun res s' hq => ?_
  cases res with
  | error e => exact tk e s' (XE.of_call I (fun cls d H' z => z) hq)
  | ok fl =>
    cases fl with
    | ret u => exact I.after hq
    | next => exact hq
    | brk => exact hq
    | cont => exact hq
theorem de_call {e : Expr} {es : List Expr} {ms : DS → M (List D)} (G : FnG X.prog X.w X.K X.mg X.base k f fd ps F) (hr : Room k X.A) (hgd : X.A.guards = some []) (hg : Gl X x) (hm : X.mg x = some (.ref f)) (hk : PySem.W.keepIn X.K (.ref f) = true) (hb : Binds X.K fd ps []) (tk : Takes X (wx X.K WE)) (ha : DA X WE (e :: es) ms)
    (hlen : ∀ S h ds h', ms S h = some (.ok ds h') → ds.length = ps.length) (hdb : (x == ("__debug__" : Str)) = false := by decide) (he : starEach (e :: es) X.env = (false, eval e X.env) :: starEach es X.env := by rfl) (hpl : (backTo pos (starEach es X.env)).any (·.1) = false := by rfl) :
    DE X WE (.Call (.Name x p) (e :: es) [] pos) (dCall F ms) := by
  refine ⟨fun pins s σ H Q I ⟨r, S, h, R, q⟩ => ?_⟩
  refine wpAny_Call_Name_kw (ld_glob I hg hm ?_ hdb)
  refine PySem.W.callWith_K (h₀ := X.base) I.ok.mod.kin hk (thn (ha.run pos pins s σ H (fun vs H1 => ∃ r1 h1 ds, Rel X.K r1 S h1 σ H1 ∧ ds.length = ps.length ∧ DRs X.K r1 h1 H1 ds vs ∧ Post X.K WE r1 S h1 σ H1 (F ds h1) (fun d r' h' H' => ∀ v, DR X.K r' h' H' d v → Q v H')) I ⟨r, S, h, R, ?_⟩) fun us s1 hh => ?_) he hpl
  · have q' := q.bd
    cases z : ms S h with
    | none => rw [z] at q'; exact q'
    | some y => cases y with
      | ok ds h' =>
        rw [z] at q'
        exact fun r' H' R' E' vs dv => ⟨r', h', ds, R', hlen S h ds h' z, dv, q' r' H' R' E'⟩
      | err c w h' => rw [z] at q'; exact q'
  · obtain ⟨vs, H1, I1, rv, r1, h1, ds, R1, l1, dv, q1⟩ := hh
    refine ⟨I1.kIn, wpAny_call (codeAny_mono (run_g (args := ⟨us, []⟩) G hr hgd tk I1 R1 ?_ ?_ rv dv q1) fun res s' z => ?_)⟩
    · rw [← rv.length, ← dv.length, l1]
    · have z := hb s1 us I1.kIn (by rw [List.append_nil, ← rv.length, ← dv.length, l1])
      rw [List.append_nil] at z
      exact z
    · cases res with
      | error e => exact z
      | ok fl => cases fl with
        | ret u => exact z
        | next => exact z.elim
        | brk => exact z.elim
        | cont => exact z.elim
/-- so many arguments -/
def ANum (ms : DS → M (List D)) (n : Nat) : Prop := ∀ S h ds h', ms S h = some (.ok ds h') → ds.length = n
theorem anum_nil : ANum aNil 0 := fun S h ds h' e => by cases e; rfl
theorem anum_cons {m : DS → M D} {ms : DS → M (List D)} {n : Nat} (a : ANum ms n) : ANum (aCons m ms) (n + 1) := fun S h ds h' e => by
  unfold aCons bd at e
  split at e
  · rename_i d h1 e1
    simp only [] at e
    split at e
    · rename_i ds1 h2 e2
      cases e
      rw [List.length_cons, a S h1 ds1 _ e2]
    · cases e
    · cases e
  · cases e
  · cases e
def DK (X : Cx) (WE : EW) (kws : List Keyword) (m : DS → M (List D)) : Prop := PK X kws (tDA X.K WE m)
theorem PK.imp {X : Cx} {es : List Keyword} {t t' : TA} (p : PK X es t) (i : ∀ s H Q, t' s H Q → t s H Q) : PK X es t' := ⟨fun z a b c d Q I q => p.run z a b c d Q I (i _ _ _ q)⟩
theorem dk_nil : DK X WE [] aNil := PK.imp pk_nil fun s H Q ⟨r, S, h, R, p⟩ => p r H R .refl [] .nil
theorem dk_cons {e : Expr} {kws : List Keyword} {nm : Option Str} {kpos : Pos} {m : DS → M D} {ms : DS → M (List D)} (ha : DE X WE e m) (hr : DK X WE kws ms) : DK X WE (⟨nm, e, kpos⟩ :: kws) (aCons m ms) :=
  PK.imp (pk_cons ha hr) fun s H Q ⟨r0, S, h, R, p⟩ =>
    ⟨r0, S, h, R, p.bd.mono fun a r1 h1 H1 R1 E1 q v dv => ⟨r1, S, h1, R1, q.bd.mono fun b r2 h2 H2 R2 E2 q2 vs dvs => q2 r2 H2 R2 .refl (v :: vs) (.cons (dv.ext E2) dvs)⟩⟩
/-- how a call with keywords binds -/
structure KB (fd : FuncData) (ps ks : List Str) (n : Nat) (gV : List Value → List Value → List Value) (gv : List V → List V → List V) (gD : List D → List D → List D) : Prop where
  to : ∀ (s : Shared) (us ws : List Value), us.length = n → ws.length = ks.length → (gV us ws).length = ps.length ∧ BindsTo s fd ⟨us, ks.zip ws⟩ (ps.zip (gV us ws))
  rel : ∀ {vs : List V} {us : List Value} {zs : List V} {ws : List Value}, vs.length = n → zs.length = ks.length → Vals vs us → Vals zs ws → Vals (gv vs zs) (gV us ws)
  drs : ∀ {K : PySem.W.Frag} {r : List Addr} {h : Hd} {H : Hp} {as bs : List D} {vs zs : List V}, vs.length = n → zs.length = ks.length → DRs K r h H as vs → DRs K r h H bs zs → DRs K r h H (gD as bs) (gv vs zs)
theorem kw_binds {K : PySem.W.Frag} {x qual : Str} {params : Arguments} {body : List Stmt} {scope : Scope} {f : Addr} {fd : FuncData} {ps ks : List Str} {n : Nat} {gV : List Value → List Value → List Value} (F : FunD K x qual params body scope [] [] f fd)
    (h : ∀ (kV doc pm : Value) (an : Option Addr) (cdv ct : Value) (us ws : List Value), us.length = n → ws.length = ks.length → (gV us ws).length = ps.length ∧ bindArgs (PySem.W.fnOf x qual params body scope .none kV doc pm an cdv ct) ⟨us, ks.zip ws⟩ = pure (ps.zip (gV us ws))) :
    ∀ (s : Shared) (us ws : List Value), us.length = n → ws.length = ks.length → (gV us ws).length = ps.length ∧ BindsTo s fd ⟨us, ks.zip ws⟩ (ps.zip (gV us ws)) := by
  intro s us ws h1 h2
  obtain ⟨oc, od, dV, kV, doc, pm, an, cdv, ct, osl, rfl, lk, hcd, dfl, _⟩ := F.ex
  rcases dfl with ⟨_, rfl⟩ | ⟨q, _⟩
  · obtain ⟨a, b⟩ := h kV doc pm an cdv ct us ws h1 h2
    exact ⟨a, BindsTo.of_eq b⟩
  · exact absurd rfl q
theorem de_callK {e : Expr} {es : List Expr} {kws : List Keyword} {ks : List Str} {n : Nat} {gV : List Value → List Value → List Value} {gv : List V → List V → List V} {gD : List D → List D → List D} {ms mk' : DS → M (List D)} (G : FnG X.prog X.w X.K X.mg X.base k f fd ps F) (hr : Room k X.A) (hgd : X.A.guards = some []) (hg : Gl X x) (hm : X.mg x = some (.ref f)) (hk : PySem.W.keepIn X.K (.ref f) = true) (hb : KB fd ps ks n gV gv gD) (tk : Takes X (wx X.K WE))
    (ha : DA X WE (e :: es) ms) (hn : ANum ms n) (hkw : DK X WE kws mk') (hnk : ANum mk' ks.length) (hall : (backToKw pos (keywordEach kws X.env)).all (·.1.isSome) = true := by rfl) (hks : (backToKw pos (keywordEach kws X.env)).filterMap (·.1) = ks := by rfl)
    (hdb : (x == ("__debug__" : Str)) = false := by decide) (he : starEach (e :: es) X.env = (false, eval e X.env) :: starEach es X.env := by rfl) (hpl : ((backTo pos (starEach (e :: es) X.env)).any (·.1) || (backToKw pos (keywordEach kws X.env)).any (·.1.isNone)) = false := by rfl) :
    DE X WE (.Call (.Name x p) (e :: es) kws pos) (dCallK F gD ms mk') := by
  refine ⟨fun pins s σ H Q I ⟨r, S, h, R, q⟩ => ?_⟩
  refine wpAny_Call_Name_kw (ld_glob I hg hm ?_ hdb)
  refine PySem.W.callWith_KW (h₀ := X.base) I.ok.mod.kin hk hall (thn (ha.run pos pins s σ H (fun vs H1 => ∃ r1 h1 ds, Rel X.K r1 S h1 σ H1 ∧ ds.length = n ∧ DRs X.K r1 h1 H1 ds vs ∧ Post X.K WE r1 S h1 σ H1 (bd (mk' S) (fun b => F (gD ds b)) h1) (fun d r' h' H' => ∀ v, DR X.K r' h' H' d v → Q v H')) I ⟨r, S, h, R, ?_⟩) fun us s1 hh => ?_) hpl he
  · have q' := q.bd
    cases z : ms S h with
    | none => rw [z] at q'; exact q'
    | some y => cases y with
      | ok ds h' =>
        rw [z] at q'
        exact fun r' H' R' E' vs dv => ⟨r', h', ds, R', hn S h ds h' z, dv, q' r' H' R' E'⟩
      | err c w h' => rw [z] at q'; exact q'
  · obtain ⟨vs, H1, I1, rv, r1, h1, ds, R1, l1, dv, q1⟩ := hh
    refine thn (hkw.run pos pins s1 σ H1 (fun zs H2 => ∃ r2 h2 bs, Rel X.K r2 S h2 σ H2 ∧ bs.length = ks.length ∧ DRs X.K r2 h2 H2 ds vs ∧ DRs X.K r2 h2 H2 bs zs ∧ Post X.K WE r2 S h2 σ H2 (F (gD ds bs) h2) (fun d r' h' H' => ∀ v, DR X.K r' h' H' d v → Q v H')) I1 ⟨r1, S, h1, R1, ?_⟩) fun ws s2 hh2 => ?_
    · have q' := q1.bd
      cases z : mk' S h1 with
      | none => rw [z] at q'; exact q'
      | some y => cases y with
        | ok bs h' =>
          rw [z] at q'
          exact fun r' H' R' E' zs dz => ⟨r', h', bs, R', hnk S h1 bs h' z, dv.ext E', dz, q' r' H' R' E'⟩
        | err c w h' => rw [z] at q'; exact q'
    · obtain ⟨zs, H2, I2, rz, r2, h2, bs, R2, l2, dv2, dz, q2⟩ := hh2
      rw [hks]
      have lv : vs.length = n := by rw [← dv2.length, l1]
      have lz : zs.length = ks.length := by rw [← dz.length, l2]
      obtain ⟨b1, b2⟩ := hb.to s2 us ws (by rw [← rv.length, lv]) (by rw [← rz.length, lz])
      refine ⟨I2.kIn, wpAny_call (codeAny_mono (run_g (args := ⟨[] ++ us, ks.zip ws⟩) G hr hgd tk I2 R2 b1 b2 (hb.rel lv lz rv rz) (hb.drs lv lz dv2 dz) q2) fun res s' z => ?_)⟩
      cases res with
      | error e => exact z
      | ok fl => cases fl with
        | ret u => exact z
        | next => exact z.elim
        | brk => exact z.elim
        | cont => exact z.elim
theorem de_callK0 {kws : List Keyword} {ks : List Str} {gV : List Value → List Value → List Value} {gv : List V → List V → List V} {gD : List D → List D → List D} {mk' : DS → M (List D)} (G : FnG X.prog X.w X.K X.mg X.base k f fd ps F) (hr : Room k X.A) (hgd : X.A.guards = some []) (hg : Gl X x) (hm : X.mg x = some (.ref f)) (hk : PySem.W.keepIn X.K (.ref f) = true) (hb : KB fd ps ks 0 gV gv gD) (tk : Takes X (wx X.K WE))
    (hkw : DK X WE kws mk') (hnk : ANum mk' ks.length) (hall : (backToKw pos (keywordEach kws X.env)).all (·.1.isSome) = true := by rfl) (hks : (backToKw pos (keywordEach kws X.env)).filterMap (·.1) = ks := by rfl)
    (hdb : (x == ("__debug__" : Str)) = false := by decide) (hpl : ((backTo pos (starEach [] X.env)).any (·.1) || (backToKw pos (keywordEach kws X.env)).any (·.1.isNone)) = false := by rfl) :
    DE X WE (.Call (.Name x p) [] kws pos) (dCallK F gD aNil mk') := by
  refine ⟨fun pins s σ H Q I ⟨r, S, h, R, q⟩ => ?_⟩
  refine wpAny_Call_Name_kw (ld_glob I hg hm ?_ hdb)
  have q1 : Post X.K WE r S h σ H (bd (mk' S) (fun b => F (gD [] b)) h) (fun d r' h' H' => ∀ v, DR X.K r' h' H' d v → Q v H') := q
  refine PySem.W.callWith_KW0 (h₀ := X.base) I.ok.mod.kin hk hall (thn (hkw.run pos pins s σ H (fun zs H2 => ∃ r2 h2 bs, Rel X.K r2 S h2 σ H2 ∧ bs.length = ks.length ∧ DRs X.K r2 h2 H2 bs zs ∧ Post X.K WE r2 S h2 σ H2 (F (gD [] bs) h2) (fun d r' h' H' => ∀ v, DR X.K r' h' H' d v → Q v H')) I ⟨r, S, h, R, ?_⟩) fun ws s2 hh2 => ?_) hpl
  · have q' := q1.bd
    cases z : mk' S h with
    | none => rw [z] at q'; exact q'
    | some y => cases y with
      | ok bs h' =>
        rw [z] at q'
        exact fun r' H' R' E' zs dz => ⟨r', h', bs, R', hnk S h bs h' z, dz, q' r' H' R' E'⟩
      | err c w h' => rw [z] at q'; exact q'
  · obtain ⟨zs, H2, I2, rz, r2, h2, bs, R2, l2, dz, q2⟩ := hh2
    rw [hks]
    have lz : zs.length = ks.length := by rw [← dz.length, l2]
    obtain ⟨b1, b2⟩ := hb.to s2 [] ws rfl (by rw [← rz.length, lz])
    refine ⟨I2.kIn, wpAny_call (codeAny_mono (run_g (args := ⟨[] ++ [], ks.zip ws⟩) G hr hgd tk I2 R2 b1 b2 (hb.rel rfl lz .nil rz) (hb.drs rfl lz .nil dz) q2) fun res s' z => ?_)⟩
    cases res with
    | error e => exact z
    | ok fl => cases fl with
      | ret u => exact z
      | next => exact z.elim
      | brk => exact z.elim
      | cont => exact z.elim
end
/-! the law's own call -/
theorem law_g {P : Program} {w : World} {K : PySem.W.Frag} {mg mb : Str → Option Value} {k : Nat} {fa a : Addr} {fd : FuncData} {x : Str} {F : List D → M D} {s1 : Shared} {vs : List Value} {ns : List Int}
    (KX : K.In s1.heap) (g1 : s1.heap.Ns mainGlobals mg) (g2 : s1.heap.Ns builtinsNs mb) (g3 : ∀ x : Str, x ≠ "__name__" → mb x = bootBuiltins x) (g4 : s1.heap.NoLimit) (g5 : s1.gens = #[])
    (ha : s1.heap.get? a = some { cls := .type "list", data := .seq vs.toArray }) (hi : IntsAre vs ns) (hl : ns.length ≤ sizeLine) (hr : Room k callerA)
    (G : ∀ base : Heap, K.In base → base.Ns mainGlobals mg → FnG P w K mg base k fa fd [x] F) (hb : ∀ (s : Shared) (u : Value), BindsTo s fd ⟨[u], []⟩ [(x, u)]) (hF : F [.s ns] [] = some (.ok (.t (.bool true)) [])) :
    codeAny (model P w) callerA (.call (.ref fa) ⟨[.ref a], []⟩) (fun r s' => r = .ok (.ret (.bool true)) ∧ OldK s1.heap s'.heap ∧ s'.os = s1.os ∧ AllBare s'.gens) s1 := by
  have lv := hi.length
  have rv : Vals (ns.map V.int) vs := vals_ints hi
  let o : Obj := { cls := .type "list", data := .seq vs.toArray }
  -- over any abstract heap that holds the script at most
  have main : ∀ H : Hp, (∀ b u, H b = some u → b = a ∧ u = .frz o (.lst (ns.map V.int)) ∧ K.lookup a = none) → ScR K (Lv [] []) H a ns →
      codeAny (model P w) callerA (.call (.ref fa) ⟨[.ref a], []⟩) (fun r s' => r = .ok (.ret (.bool true)) ∧ OldK s1.heap s'.heap ∧ s'.os = s1.os ∧ AllBare s'.gens) s1 := by
    intro H hH hS
    have none_of : ∀ {b : Addr} {u : Obj}, s1.heap.get? b = some u → (∀ es ep, u.data = .dict es ep → False) ∨ H b = none ∨ H b ≠ none := fun _ => .inr (Classical.em _)
    have dictFree : ∀ {b : Addr} {u : Obj} {es : Array DictEntry} {ep : Nat}, s1.heap.get? b = some u → u.data = .dict es ep → H b = none := by
      intro b u es ep e1 e2
      cases q : H b with
      | none => rfl
      | some z =>
        obtain ⟨rfl, _, _⟩ := hH b z q
        rw [ha] at e1
        cases e1
        exact nomatch (show Data.seq vs.toArray _ = Data.dict es ep from e2)
    have nsH : ∀ {b : Addr} {m : Str → Option Value}, s1.heap.Ns b m → (hidT s1.heap H).Ns b m := by
      rintro b m ⟨u, es, ep, e1, e2, e3⟩
      exact ⟨u, es, ep, hidT_get e1 (dictFree e1 e2), e2, e3⟩
    have kH : K.In (hidT s1.heap H) := by
      intro b u e1
      refine hidT_get (KX b u e1) ?_
      cases q : H b with
      | none => rfl
      | some z =>
        obtain ⟨rfl, _, z3⟩ := hH b z q
        rw [z3] at e1
        cases e1
    have hok : HOk P w H s1.heap := by
      intro b u e1
      obtain ⟨rfl, rfl, _⟩ := hH b u e1
      exact ⟨ha, by rw [List.length_map]; exact hl, vs, _, rv, ha⟩
    have md : Mod K mg (hidT s1.heap H) := ⟨kH, nsH g1, ⟨mb, nsH g2, g3⟩, by
      obtain ⟨mc, c1, c2⟩ := g4
      exact ⟨mc, nsH c1, c2⟩⟩
    have ev : Env0 P w K mg (hidT s1.heap H) callerA [] s1 H :=
      { frames := rfl, mod := md, bs := fun b u e => of_hidT e, bsz := Nat.le_of_eq (hidT_size _ _), funs := trivial, frf := fun b hb => absurd hb (List.not_mem_nil), hok := hok, bare := .of_eq g5 }
    have R : Rel K [] [] [] [] H := ⟨List.nodup_nil, rfl, fun n c b e => by simp at e, rfl, fun i d e => by simp at e⟩
    refine codeAny_mono ((G _ kH (nsH g1)).run callerA [] s1 H ⟨[.ref a], []⟩ [.ref a] [.ref a] [] [] [.s ns] (fun v _ => v = .bl true) (fun _ _ _ => False) hr rfl ev rfl (hb s1 (.ref a)) (.cons rfl .nil) R (.cons ⟨a, rfl, hS⟩ .nil) ?_) fun res s' hq => ?_
    · rw [hF]
      intro r' H' v _ _ dv
      cases dv
      rfl
    · cases res with
      | error e =>
        obtain ⟨_, _, _, _, _, _, _, _, _, _, _, _, z⟩ := hq
        exact z.elim
      | ok fl =>
        cases fl with
        | next => exact hq.elim
        | brk => exact hq.elim
        | cont => exact hq.elim
        | ret u =>
          obtain ⟨v, H', e1, e2, e3, e4, e5, e6⟩ := hq
          obtain rfl : v = .bl true := e6
          obtain rfl : u = Value.bool true := e5
          refine ⟨rfl, OldK.of_keep fun b u e => ?_, e1, e2⟩
          cases q : H b with
          | none => exact e3.keep b u e q (List.not_mem_nil) (List.not_mem_nil)
          | some z =>
            obtain ⟨rfl, rfl, _⟩ := hH b z q
            obtain ⟨y, _⟩ := e4 b _ (e3.frzs b _ _ q)
            rw [ha] at e
            cases e
            exact y
  cases hk : K.lookup a with
  | none =>
    refine main (fun b => if b = a then some (.frz o (.lst (ns.map V.int))) else none) (fun b u e => ?_) (.inl ⟨.inr ⟨o, if_pos rfl⟩, fun l => ?_⟩)
    · split at e
      · rename_i hb
        cases e
        exact ⟨hb, rfl, hk⟩
      · cases e
    · obtain ⟨n, c, e, _⟩ := l
      simp at e
  | some ob =>
    have e := KX a ob hk
    rw [ha] at e
    cases e
    exact main (fun _ => none) (fun b u e => by cases e) (.inr ⟨_, vs.toArray, _, hk, rfl, rfl, rfl, by rw [List.size_toArray, lv]; exact hl, by simpa using rv⟩)
theorem walk_g {l : PySem.W.OpenLaw} {n k : Nat} {q : Program} {loose : List Str} {XP : (Str → Option Value) → Heap → Prop} {YP : World → Heap → Prop} {d : DefRec} {x : Str}
    (hn : l.most = some n) (hn2 : n ≤ sizeLine) (hdf : d.params.defaults = []) (hr : Room k callerA)
    (T : ∀ (w : World) (mg : Str → Option Value) (fa : Addr) (h : Heap), YP w h → h.Ns mainGlobals mg → mg d.name = some (.ref fa) →
      ∃ (K : PySem.W.Frag) (fd : FuncData) (F : List D → M D), K.In h ∧ (∀ (s : Shared) (u : Value), BindsTo s fd ⟨[u], []⟩ [(x, u)]) ∧
        (∀ ns : List Int, ns.length ≤ n → F [.s ns] [] = some (.ok (.t (.bool true)) [])) ∧ ∀ base : Heap, K.In base → base.Ns mainGlobals mg → FnG l.prog w K mg base k fa fd [x] F) :
    PySem.W.WalkO q loose XP YP l.row.toRowW d [] (fun f vs => PySem.call f vs) :=
  Att.attach_call hn hdf fun w s0 s1 mg mb fa o pm cd doc a vs ns G Y ho hd hcd hmg hobj hints hlen hg => by
    obtain ⟨K, fd, F, KX, hb, hF, hG⟩ := T w mg fa _ Y G.T.g hmg
    exact law_g KX G.T.g G.T.b G.T.builtins G.T.nolimit hg hobj hints (Nat.le_trans hlen hn2) hr hG hb (hF ns hlen)
end DL
set_option Elab.async false
set_option linter.all false
set_option maxRecDepth 100000
set_option maxHeartbeats 2000000
set_option autoImplicit false
namespace DL
open PySem PySem.Spec L2
open PyProof.Rows hiding St

/-- a text by its codes -/
abbrev tx (l : List Nat) : Str := ⟨l.toArray⟩
theorem tx_len (l : List Nat) : (tx l).length = l.length := by show l.toArray.size = _; simp
theorem tx_list (l : List Nat) : (tx l).cps.toList = l := by simp
theorem tx_of (x : Str) : tx x.cps.toList = x := by cases x; simp
theorem tx_add (l m : List Nat) : tx l ++ tx m = tx (l ++ m) := by
  show (⟨l.toArray ++ m.toArray⟩ : Str) = _
  simp
/-! arithmetic -/
def okI (i : Int) : Bool := decide (-(2 ^ 63) ≤ i ∧ i < 2 ^ 63)
def repS (x : Str) (k : Nat) : Str := tx (List.replicate k x.cps.toList).flatten
def addP : PyData → PyData → Option PyData
  | .int i, .int j => some (.int (i + j))
  | .str a, .str b => if a.length + b.length ≤ sizeLine then some (.str (a ++ b)) else none
  | .list a, .list b => if a.length + b.length ≤ sizeLine then some (.list (a ++ b)) else none
  | .tuple a, .tuple b => if a.length + b.length ≤ sizeLine then some (.tuple (a ++ b)) else none
  | _, _ => none
def subP : PyData → PyData → Option PyData
  | .int i, .int j => some (.int (i - j))
  | _, _ => none
def mulP : PyData → PyData → Option PyData
  | .int i, .int j => if i.natAbs.log2 + j.natAbs.log2 < 1000000 then some (.int (i * j)) else none
  | .str x, .int n => if okI n && decide (x.length * n.toNat ≤ sizeLine) then some (.str (repS x n.toNat)) else none
  | .list ds, .int n => if okI n && decide (ds.length * n.toNat ≤ sizeLine) then some (.list (List.replicate n.toNat ds).flatten) else none
  | _, _ => none
def fdivP : PyData → PyData → Option PyData
  | .int i, .int j => if 0 < j ∧ j.natAbs.log2 < 9000 then some (.int (i / j)) else none
  | _, _ => none
def modP : PyData → PyData → Option PyData
  | .int i, .int j => if 0 < j then some (.int (i % j)) else none
  | _, _ => none
def powP : PyData → PyData → Option PyData
  | .int i, .int j => if 0 ≤ j ∧ (Builtin.Int.intBits i : Int) * j ≤ 2 ^ 27 then some (.int (i ^ j.toNat)) else none
  | _, _ => none
def negP : PyData → Option PyData
  | .int i => some (.int (-i))
  | _ => none
def ltP : PyData → PyData → Option PyData
  | .int i, .int j => some (.bool (decide (i < j)))
  | .str a, .str b => some (.bool (decide (a.cps.toList < b.cps.toList)))
  | _, _ => none
def gtP : PyData → PyData → Option PyData
  | .int i, .int j => some (.bool (decide (j < i)))
  | .str a, .str b => some (.bool (decide (b.cps.toList < a.cps.toList)))
  | _, _ => none
def leP : PyData → PyData → Option PyData
  | .int i, .int j => some (.bool (decide (i ≤ j)))
  | .str a, .str b => some (.bool (!decide (b.cps.toList < a.cps.toList)))
  | _, _ => none
def geP : PyData → PyData → Option PyData
  | .int i, .int j => some (.bool (decide (j ≤ i)))
  | .str a, .str b => some (.bool (!decide (a.cps.toList < b.cps.toList)))
  | _, _ => none
def eqP : PyData → PyData → Option PyData
  | .str a, .str b => some (.bool (decide (a = b)))
  | a, b => if SeqAt.shaped a && SeqAt.shaped b then some (.bool (PyData.eqv a b)) else none
def neP : PyData → PyData → Option PyData
  | .str a, .str b => some (.bool (!decide (a = b)))
  | a, b => if SeqAt.shaped a && SeqAt.shaped b then some (.bool (!PyData.eqv a b)) else none
section
variable {K : PySem.W.Frag} {X : Cx}
theorem newL {L : Addr → Prop} {H : Hp} {p : Addr} {vs : List V} {ds : List PyData} {Q : VK} (hL : ∀ p, L p → ∃ o, H p = some o) (np : H p = none) (t : TRs K L H vs ds) (k : ∀ v H', Grow H H' → TR K L H' v (.list ds) → Q v H') : Q (.ref p) (upd H p (.lst vs)) := by
  have g : Grow H (upd H p (.lst vs)) := Grow.upd np
  exact k _ _ g (.lst upd_same (fun l => by obtain ⟨o, q⟩ := hL p l; rw [np] at q; cases q) (TRs.mono (fun a o e n => ⟨g a o e, n⟩) _ _ t))
theorem newT {L : Addr → Prop} {H : Hp} {p : Addr} {vs : List V} {ds : List PyData} {Q : VK} (hL : ∀ p, L p → ∃ o, H p = some o) (np : H p = none) (t : TRs K L H vs ds) (k : ∀ v H', Grow H H' → TR K L H' v (.tuple ds) → Q v H') : Q (.ref p) (upd H p (.tup vs)) := by
  have g : Grow H (upd H p (.tup vs)) := Grow.upd np
  exact k _ _ g (.tup upd_same (fun l => by obtain ⟨o, q⟩ := hL p l; rw [np] at q; cases q) (TRs.mono (fun a o e n => ⟨g a o e, n⟩) _ _ t))
theorem PureD.or {r r' : R2} {g : PyData → PyData → Option PyData} {g1 g2 : PyData → PyData → Bool} (h : PureD K r fun a b => if g1 a b then g a b else none) (h' : PureD K r' fun a b => if g1 a b then none else g a b) : PureD K (fun x y H Q => r x y H Q ∨ r' x y H Q) g := by
  intro L H x y a b z Q hL wa wb e k
  cases q : g1 a b with
  | true => exact .inl (h L H x y a b z Q hL wa wb (by simp [q, e]) k)
  | false => exact .inr (h' L H x y a b z Q hL wa wb (by simp [q, e]) k)
/-- the rule of + -/
def rAddA (K : PySem.W.Frag) : R2 := fun x y H Q => (rI0 (fun i j => .int (i + j)) x y H Q ∨ (∃ i j, x = .str i ∧ y = .str j ∧ i.length + j.length ≤ sizeLine ∧ Q (.str (i ++ j)) H)) ∨ (rCat x y H Q ∨ rCatA K x y H Q)
theorem op_addA : OpR X (binaryOp .Add) (rAddA X.K) := (op_add.or op_add_str).or (op_cat.or op_catA)
theorem pd_add : PureD K (rAddA K) addP := by
  intro L H x y a b z Q hL wa wb e k
  unfold addP at e
  split at e
  · cases wa; cases wb; cases e
    exact .inl (.inl ⟨_, _, rfl, rfl, k _ H Grow.refl (.int _)⟩)
  · cases wa; cases wb
    split at e
    · rename_i hl
      cases e
      exact .inl (.inr ⟨_, _, rfl, rfl, hl, k _ H Grow.refl (.str _)⟩)
    · cases e
  · obtain ⟨a1, xs, rfl, e1, t1⟩ := wa
    obtain ⟨a2, ys, rfl, e2, t2⟩ := wb
    split at e
    · rename_i hl
      cases e
      refine .inr (.inl ⟨a1, a2, xs, ys, rfl, rfl, e1, e2, by rw [t1.length, t2.length]; exact hl, fun p np => ?_⟩)
      exact newL hL np (t1.append t2) k
    · cases e
  · cases wa with
    | tup e1 n1 t1 => cases wb with
      | tup e2 n2 t2 =>
        split at e
        · rename_i hl
          cases e
          refine .inr (.inr ⟨_, _, _, _, rfl, rfl, SqT.of e1, SqT.of e2, by rw [t1.length, t2.length]; exact hl, fun z => ?_, fun _ z => ?_, fun _ z p np => ?_⟩)
          · subst z
            cases t1
            exact k _ H Grow.refl (.tup e2 n2 t2)
          · subst z
            cases t2
            rw [List.append_nil] at k
            exact k _ H Grow.refl (.tup e1 n1 t1)
          · exact newT hL np (t1.append t2) k
        · cases e
  · cases e
theorem pd_sub : PureD K (rI0 fun i j => .int (i - j)) subP := by
  intro L H x y a b z Q hL wa wb e k
  unfold subP at e
  split at e
  · cases wa; cases wb; cases e
    exact ⟨_, _, rfl, rfl, k _ H Grow.refl (.int _)⟩
  · cases e
/-- a text so many times -/
theorem op_repS : OpR X (binaryOp .Mult) (fun x y H Q => ∃ z n, x = .str z ∧ y = .int n ∧ okI n = true ∧ z.length * n.toNat ≤ sizeLine ∧ Q (.str (repS z n.toNat)) H) := by
  intro pins s σ H x y v u Q I rx ry h
  obtain ⟨z, n, rfl, rfl, h1, h2, q⟩ := h
  obtain ⟨t, rfl⟩ := rx
  obtain ⟨t', rfl⟩ := ry
  have h3 := of_decide_eq_true h1
  refine P.mul_str ?_ ?_ ?_ ?_
  · rw [decide_eq_false (by omega), decide_eq_false (by omega)]; rfl
  · intro a b c
    have hz : z.length ≠ 0 := by
      intro w
      rw [w] at b
      simp at b
    have h5 : (2 ^ 63 - 1) / n * n ≤ 2 ^ 63 - 1 := Int.ediv_mul_le _ (by omega)
    have h4 : (z.length : Int) * n ≤ sizeLine := by
      have : ((z.length * n.toNat : Nat) : Int) = (z.length : Int) * n := by
        rw [Int.natCast_mul, Int.toNat_of_nonneg (by omega)]
      omega
    have h6 : (2 ^ 63 - 1) / n ≥ (z.length : Int) := by
      rw [ge_iff_le, Int.le_ediv_iff_mul_le (by omega)]
      have h7 : (sizeLine : Int) ≤ 2 ^ 63 - 1 := by rw [sizeLine_eq]; decide
      omega
    omega
  · intro a b
    show decide (z.length * n.toNat > sizeLine) = false
    rw [decide_eq_false (by omega)]
  · have hz : ∀ (k : Nat) (acc : Array Nat), (List.replicate k z.cps).foldl (· ++ ·) acc = (acc.toList ++ (List.replicate k z.cps.toList).flatten).toArray := by
      intro k
      induction k with
      | zero => intro acc; simp
      | succ k ih =>
        intro acc
        rw [List.replicate_succ, List.foldl_cons, ih, List.replicate_succ, List.flatten_cons]
        simp
    split
    · rename_i h4
      have e0 : n.toNat = 0 := by omega
      rw [e0] at q
      exact ⟨by decide, ⟨.str (repS z 0), _, I.tok _, ⟨_, rfl⟩, q⟩⟩
    · split
      · rename_i h4 h5
        have e0 : repS z n.toNat = z := by
          unfold repS
          rw [Bool.or_eq_true] at h5
          rcases h5 with h5 | h5
          · have : n = 1 := by simpa using h5
            subst this
            simp [tx_of]
          · have : z.cps.toList = [] := by
              have : z.length = 0 := by simpa using h5
              exact List.eq_nil_of_length_eq_zero (by simpa [Str.length] using this)
            rw [this]
            have e1 : (List.replicate n.toNat ([] : List Nat)).flatten = [] := by simp
            rw [e1, ← this, tx_of]
        rw [e0] at q
        exact ⟨.str z, _, I, ⟨_, rfl⟩, q⟩
      · rename_i h4 h5
        have e9 : (⟨(List.replicate n.toNat z.cps).foldl (· ++ ·) #[]⟩ : Str) = repS z n.toNat := by
          rw [hz]
          simp [repS]
        rw [e9]
        refine ⟨?_, ⟨.str (repS z n.toNat), _, I.tok _, ⟨_, rfl⟩, q⟩⟩
        · unfold repS
          show (List.toArray _).size ≤ sizeLine
          simp only [List.size_toArray, Array.toList_empty, List.nil_append, List.length_flatten, List.map_replicate, List.sum_replicate_nat]
          have : z.cps.toList.length = z.length := by simp [Str.length]
          rw [this, Nat.mul_comm]
          exact h2
def rMulA (K : PySem.W.Frag) : R2 := fun x y H Q => (rI CMulW (fun i j => .int (i * j)) x y H Q ∨ (∃ z n, x = .str z ∧ y = .int n ∧ okI n = true ∧ z.length * n.toNat ≤ sizeLine ∧ Q (.str (repS z n.toNat)) H)) ∨ rRep x y H Q
theorem op_mulA : OpR X (binaryOp .Mult) (rMulA X.K) := (op_mulW.or op_repS).or op_rep
theorem okI_of {n : Int} (h : okI n = true) : -(2 ^ 63) ≤ n ∧ n < 2 ^ 63 := of_decide_eq_true h
theorem pd_mul : PureD K (rMulA K) mulP := by
  intro L H x y a b z Q hL wa wb e k
  unfold mulP at e
  split at e
  · cases wa; cases wb
    split at e
    · rename_i hl
      cases e
      exact .inl (.inl ⟨_, _, rfl, rfl, hl, k _ H Grow.refl (.int _)⟩)
    · cases e
  · cases wa; cases wb
    split at e
    · rename_i hl
      cases e
      rw [Bool.and_eq_true] at hl
      exact .inl (.inr ⟨_, _, rfl, rfl, hl.1, of_decide_eq_true hl.2, k _ H Grow.refl (.str _)⟩)
    · cases e
  · obtain ⟨a1, xs, rfl, e1, t1⟩ := wa
    cases wb
    split at e
    · rename_i hl
      cases e
      rw [Bool.and_eq_true] at hl
      exact .inr ⟨a1, _, xs, rfl, rfl, e1, (okI_of hl.1).1, (okI_of hl.1).2, by rw [t1.length]; exact of_decide_eq_true hl.2, fun p np => newL hL np (t1.rep _) k⟩
    · cases e
  · cases e
theorem pd_fdiv : PureD K (rI CDivW fun i j => .int (i / j)) fdivP := by
  intro L H x y a b z Q hL wa wb e k
  unfold fdivP at e
  split at e
  · cases wa; cases wb
    split at e
    · rename_i hl
      cases e
      exact ⟨_, _, rfl, rfl, hl, k _ H Grow.refl (.int _)⟩
    · cases e
  · cases e
theorem pd_mod : PureD K (rI (fun _ j => 0 < j) fun i j => .int (i % j)) modP := by
  intro L H x y a b z Q hL wa wb e k
  unfold modP at e
  split at e
  · cases wa; cases wb
    split at e
    · rename_i hl
      cases e
      exact ⟨_, _, rfl, rfl, hl, k _ H Grow.refl (.int _)⟩
    · cases e
  · cases e
def CPowX (i j : Int) : Prop := 0 ≤ j ∧ (Builtin.Int.intBits i : Int) * j ≤ 2 ^ 27
theorem op_powX : OpR X (binaryOp .Pow) (rI CPowX fun i j => .int (i ^ j.toNat)) := opI fun _ _ _ _ _ _ _ hc q => pow_int hc.1 hc.2 q
theorem pd_pow : PureD K (rI CPowX fun i j => .int (i ^ j.toNat)) powP := by
  intro L H x y a b z Q hL wa wb e k
  unfold powP at e
  split at e
  · cases wa; cases wb
    split at e
    · rename_i hl
      cases e
      exact ⟨_, _, rfl, rfl, hl, k _ H Grow.refl (.int _)⟩
    · cases e
  · cases e
theorem pu_neg : PureU K (rU fun i => .int (-i)) negP := by
  intro L H x a z Q hL wa e k
  unfold negP at e
  split at e
  · cases wa; cases e
    exact ⟨_, rfl, k _ H Grow.refl (.int _)⟩
  · cases e
def rOrd (p : Int → Int → Bool) (q : Str → Str → Bool) : R2 := fun x y H Q => rI0 (fun i j => .bl (p i j)) x y H Q ∨ ∃ i j, x = .str i ∧ y = .str j ∧ Q (.bl (q i j)) H
theorem pd_ord {p : Int → Int → Bool} {q : Str → Str → Bool} {g : PyData → PyData → Option PyData} (hg : ∀ a b z, g a b = some z → (∃ i j, a = .int i ∧ b = .int j ∧ z = .bool (p i j)) ∨ ∃ i j, a = .str i ∧ b = .str j ∧ z = .bool (q i j)) : PureD K (rOrd p q) g := by
  intro L H x y a b z Q hL wa wb e k
  rcases hg a b z e with ⟨i, j, rfl, rfl, rfl⟩ | ⟨i, j, rfl, rfl, rfl⟩
  · cases wa; cases wb
    exact .inl ⟨_, _, rfl, rfl, k _ H Grow.refl (.bl _)⟩
  · cases wa; cases wb
    exact .inr ⟨_, _, rfl, rfl, k _ H Grow.refl (.bl _)⟩
theorem op_ltA : OpR X (compareOp .Lt) (rOrd (fun i j => decide (i < j)) fun a b => decide (a.cps.toList < b.cps.toList)) := op_lt.or op_lt_str
theorem op_gtA : OpR X (compareOp .Gt) (rOrd (fun i j => decide (j < i)) fun a b => decide (b.cps.toList < a.cps.toList)) := op_gt.or op_gt_str
theorem op_leA : OpR X (compareOp .LtE) (rOrd (fun i j => decide (i ≤ j)) fun a b => !decide (b.cps.toList < a.cps.toList)) := op_le.or op_le_str
theorem op_geA : OpR X (compareOp .GtE) (rOrd (fun i j => decide (j ≤ i)) fun a b => !decide (a.cps.toList < b.cps.toList)) := op_ge.or op_ge_str
theorem pd_lt : PureD K (rOrd (fun i j => decide (i < j)) fun a b => decide (a.cps.toList < b.cps.toList)) ltP := pd_ord fun a b z e => by
  unfold ltP at e
  split at e
  · cases e; exact .inl ⟨_, _, rfl, rfl, rfl⟩
  · cases e; exact .inr ⟨_, _, rfl, rfl, rfl⟩
  · cases e
theorem pd_gt : PureD K (rOrd (fun i j => decide (j < i)) fun a b => decide (b.cps.toList < a.cps.toList)) gtP := pd_ord fun a b z e => by
  unfold gtP at e
  split at e
  · cases e; exact .inl ⟨_, _, rfl, rfl, rfl⟩
  · cases e; exact .inr ⟨_, _, rfl, rfl, rfl⟩
  · cases e
theorem pd_le : PureD K (rOrd (fun i j => decide (i ≤ j)) fun a b => !decide (b.cps.toList < a.cps.toList)) leP := pd_ord fun a b z e => by
  unfold leP at e
  split at e
  · cases e; exact .inl ⟨_, _, rfl, rfl, rfl⟩
  · cases e; exact .inr ⟨_, _, rfl, rfl, rfl⟩
  · cases e
theorem pd_ge : PureD K (rOrd (fun i j => decide (j ≤ i)) fun a b => !decide (a.cps.toList < b.cps.toList)) geP := pd_ord fun a b z e => by
  unfold geP at e
  split at e
  · cases e; exact .inl ⟨_, _, rfl, rfl, rfl⟩
  · cases e; exact .inr ⟨_, _, rfl, rfl, rfl⟩
  · cases e
def rEqA (K : PySem.W.Frag) : R2 := fun x y H Q => rEq x y H Q ∨ rEqD K x y H Q
theorem op_eqA {X : Cx} (hu : X.A.units + 64 < cLine) : OpR X (compareOp .Eq) (rEqA X.K) := op_eq.or (op_eqD hu)
theorem pd_eq : PureD K (rEqA K) eqP := by
  intro L H x y a b z Q hL wa wb e k
  unfold eqP at e
  split at e
  · cases wa; cases wb; cases e
    exact .inl ⟨rfl, by simpa using k _ H Grow.refl (.bl _)⟩
  split at e
  · rename_i h
    rw [Bool.and_eq_true] at h
    cases e
    exact .inr ⟨_, _, wa.dp, wb.dp, h.1, h.2, k _ H Grow.refl (.bl _)⟩
  · cases e
def rNeA (K : PySem.W.Frag) : R2 := fun x y H Q => rNe x y H Q ∨ rNeD K x y H Q
theorem op_neA {X : Cx} (hu : X.A.units + 64 < cLine) : OpR X (compareOp .NotEq) (rNeA X.K) := op_ne.or (op_neD hu)
theorem pd_ne : PureD K (rNeA K) neP := by
  intro L H x y a b z Q hL wa wb e k
  unfold neP at e
  split at e
  · cases wa; cases wb; cases e
    exact .inl ⟨rfl, by simpa using k _ H Grow.refl (.bl _)⟩
  split at e
  · rename_i h
    rw [Bool.and_eq_true] at h
    cases e
    exact .inr ⟨_, _, wa.dp, wb.dp, h.1, h.2, k _ H Grow.refl (.bl _)⟩
  · cases e
/-- is None, True, False -/
def isP : PyData → PyData → Option PyData
  | .none, .none => some (.bool true)
  | _, .none => some (.bool false)
  | .bool a, .bool b => some (.bool (decide (a = b)))
  | _, _ => none
def isNotP : PyData → PyData → Option PyData
  | .none, .none => some (.bool false)
  | _, .none => some (.bool true)
  | .bool a, .bool b => some (.bool (!decide (a = b)))
  | _, _ => none
def nonP : PyData → Bool
  | .none => true
  | _ => false
theorem nn_dec {x : V} {a : PyData} {L : Addr → Prop} {H : Hp} (w : WR K L H x a) : decide (x = .non) = nonP a := by
  cases a with
  | none => cases w; rfl
  | bool b => cases w; rfl
  | int i => cases w; rfl
  | str s => cases w; rfl
  | list ds => obtain ⟨_, _, rfl, _⟩ := w; rfl
  | tuple ds => cases w; rfl
  | dict kvs => cases w
theorem op_isA : OpR X (compareOp .Is) (fun x y H Q => (y = .non ∧ Q (.bl (decide (x = .non))) H) ∨ ∃ a b, x = .bl a ∧ y = .bl b ∧ Q (.bl (decide (a = b))) H) := op_isN.or op_is_bl
theorem op_isNotA : OpR X (compareOp .IsNot) (fun x y H Q => (y = .non ∧ Q (.bl (!decide (x = .non))) H) ∨ ∃ a b, x = .bl a ∧ y = .bl b ∧ Q (.bl (!decide (a = b))) H) := op_notN.or op_isnot_bl
theorem pd_is : PureD K (fun x y H Q => (y = .non ∧ Q (.bl (decide (x = .non))) H) ∨ ∃ a b, x = .bl a ∧ y = .bl b ∧ Q (.bl (decide (a = b))) H) isP := by
  intro L H x y a b z Q hL wa wb e k
  have hn := nn_dec wa
  unfold isP at e
  split at e
  · cases wb; cases e
    refine .inl ⟨rfl, ?_⟩
    rw [hn]; exact k _ H Grow.refl (.bl _)
  · rename_i hne
    cases wb; cases e
    refine .inl ⟨rfl, ?_⟩
    rw [hn]
    have e0 : nonP a = false := by
      cases a with
      | none => exact absurd rfl hne
      | _ => rfl
    rw [e0]
    exact k _ H Grow.refl (.bl _)
  · cases wa; cases wb; cases e
    exact .inr ⟨_, _, rfl, rfl, k _ H Grow.refl (.bl _)⟩
  · cases e
theorem pd_isNot : PureD K (fun x y H Q => (y = .non ∧ Q (.bl (!decide (x = .non))) H) ∨ ∃ a b, x = .bl a ∧ y = .bl b ∧ Q (.bl (!decide (a = b))) H) isNotP := by
  intro L H x y a b z Q hL wa wb e k
  have hn := nn_dec wa
  unfold isNotP at e
  split at e
  · cases wb; cases e
    refine .inl ⟨rfl, ?_⟩
    rw [hn]; exact k _ H Grow.refl (.bl _)
  · rename_i hne
    cases wb; cases e
    refine .inl ⟨rfl, ?_⟩
    rw [hn]
    have e0 : nonP a = false := by
      cases a with
      | none => exact absurd rfl hne
      | _ => rfl
    rw [e0]
    exact k _ H Grow.refl (.bl _)
  · cases wa; cases wb; cases e
    exact .inr ⟨_, _, rfl, rfl, k _ H Grow.refl (.bl _)⟩
  · cases e
/-- texts: in, not in -/
def inSP : PyData → PyData → Option PyData
  | .str a, .str b => match a.cps.toList with
    | [c] => some (.bool (decide (c ∈ b.cps.toList)))
    | _ => none
  | _, _ => none
def notInSP : PyData → PyData → Option PyData
  | .str a, .str b => match a.cps.toList with
    | [c] => some (.bool (!decide (c ∈ b.cps.toList)))
    | _ => none
  | _, _ => none
theorem one_sign {a : Str} {c : Nat} (h : a.cps.toList = [c]) : a = ⟨#[c]⟩ := by
  obtain ⟨a⟩ := a
  have : a.toList.toArray = [c].toArray := by rw [show a.toList = [c] from h]
  simp at this
  rw [this]
theorem pd_inS : PureD K (fun x y H Q => ∃ (c : Nat) (z : Str), x = .str ⟨#[c]⟩ ∧ y = .str z ∧ Q (.bl (decide (c ∈ z.cps.toList))) H) inSP := by
  intro L H x y a b z Q hL wa wb e k
  unfold inSP at e
  split at e
  · split at e
    · rename_i h
      cases wa; cases wb; cases e
      exact ⟨_, _, by rw [one_sign h], rfl, k _ H Grow.refl (.bl _)⟩
    · cases e
  · cases e
theorem pd_notInS : PureD K (fun x y H Q => ∃ (c : Nat) (z : Str), x = .str ⟨#[c]⟩ ∧ y = .str z ∧ Q (.bl (!decide (c ∈ z.cps.toList))) H) notInSP := by
  intro L H x y a b z Q hL wa wb e k
  unfold notInSP at e
  split at e
  · split at e
    · rename_i h
      cases wa; cases wb; cases e
      exact ⟨_, _, by rw [one_sign h], rfl, k _ H Grow.refl (.bl _)⟩
    · cases e
  · cases e
end
end DL
set_option Elab.async false
set_option linter.all false
set_option maxRecDepth 100000
set_option maxHeartbeats 2000000
set_option autoImplicit false
namespace DL
open PySem PySem.Spec L2
open PyProof.Rows hiding St

/-! weak reading: the script too -/
def WW (K : PySem.W.Frag) (L : Addr → Prop) (H : Hp) (v : V) : PyData → Prop
  | .list ds => ∃ a xs, v = .ref a ∧ SqL K H a xs ∧ TRs K L H xs ds
  | d => TR K L H v d
inductive WWs (K : PySem.W.Frag) (L : Addr → Prop) (H : Hp) : List V → List PyData → Prop
  | nil : WWs K L H [] []
  | cons {v : V} {vs : List V} {d : PyData} {ds : List PyData} : WW K L H v d → WWs K L H vs ds → WWs K L H (v :: vs) (d :: ds)
theorem WR.w {K : PySem.W.Frag} {L : Addr → Prop} {H : Hp} {v : V} {d : PyData} (h : WR K L H v d) : WW K L H v d := by
  cases d with
  | list ds => obtain ⟨a, xs, rfl, e, t⟩ := h; exact ⟨a, xs, rfl, SqL.of e, t⟩
  | _ => exact h
def rdw : D → M PyData
  | .s ns => ret (.list (ns.map .int))
  | d => rd d
def rdws : List D → M (List PyData)
  | [] => ret []
  | d :: ds => bd (rdw d) fun x => bd (rdws ds) fun xs => ret (x :: xs)
theorem trs_ints {K : PySem.W.Frag} {L : Addr → Prop} {H : Hp} : ∀ ns : List Int, TRs K L H (ns.map V.int) (ns.map PyData.int)
  | [] => .nil
  | n :: ns => .cons (.int n) (trs_ints ns)
section
variable {K : PySem.W.Frag} {WE : EW} {r : List Addr} {S : DS} {h : Hd} {s : St} {H : Hp}
theorem rdw_ok {d : D} {v : V} {G : PyData → List Addr → Hd → Hp → Prop} (R : Rel K r S h s H) (x : DR K r h H d v) (p : Post K WE r S h s H (rdw d h) G) : ∃ z, WW K (Lv r h) H v z ∧ G z r h H := by
  cases d with
  | s ns =>
    obtain ⟨a, rfl, q⟩ := x
    exact ⟨.list (ns.map .int), ⟨a, _, rfl, q.sql, trs_ints ns⟩, p r H R .refl⟩
  | t d => obtain ⟨z, a, b⟩ := rd_ok R x p; exact ⟨z, a.w, b⟩
  | c n => obtain ⟨z, a, b⟩ := rd_ok R x p; exact ⟨z, a.w, b⟩
  | k u => obtain ⟨z, a, b⟩ := rd_ok R x p; exact ⟨z, a.w, b⟩
theorem rdws_ok : ∀ {ds : List D} {vs : List V} {G : List PyData → List Addr → Hd → Hp → Prop}, Rel K r S h s H → DRs K r h H ds vs → Post K WE r S h s H (rdws ds h) G → ∃ zs, WWs K (Lv r h) H vs zs ∧ G zs r h H
  | [], _, G, R, x, p => by cases x; exact ⟨[], .nil, p r H R .refl⟩
  | d :: ds, _, G, R, x, p => by
    cases x with
    | cons a b =>
      obtain ⟨z, z1, z2⟩ := rdw_ok R a p.bd
      obtain ⟨zs, z3, z4⟩ := rdws_ok R b z2.bd
      exact ⟨z :: zs, .cons z1 z3, z4.ret R⟩
end
section
variable {X : Cx} {WE : EW}
/-! built-ins by weak trees -/
def PureW (K : PySem.W.Frag) (r : List V → Hp → VK → Prop) (g : List PyData → Option PyData) : Prop :=
  ∀ (L : Addr → Prop) (H : Hp) (vs : List V) (xs : List PyData) (z : PyData) (Q : VK), (∀ p, L p → ∃ o, H p = some o) → WWs K L H vs xs → g xs = some z → (∀ v H', Grow H H' → TR K L H' v z → Q v H') → r vs H Q
def dCW (g : List PyData → Option PyData) (ms : DS → M (List D)) : DS → M D := fun S => bd (ms S) fun ds => bd (rdws ds) fun xs => bd (opt (g xs)) fun z => ret (.t z)
theorem cw_imp {r : List V → Hp → VK → Prop} {g : List PyData → Option PyData} {K : PySem.W.Frag} {ms : DS → M (List D)} (hg : PureW K r g) (s : St) (H : Hp) (Q : VK) : tD K WE (dCW g ms) s H Q → tCB r (tDA K WE ms) s H Q := by
  rintro ⟨r0, S, h, R, p⟩
  refine ⟨r0, S, h, R, p.bd.mono fun ds r1 h1 H1 R1 E1 q vs dvs => ?_⟩
  obtain ⟨xs, x1, x2⟩ := rdws_ok R1 dvs q.bd
  obtain ⟨z, z1, z2⟩ := x2.bd.opt R1
  exact hg (Lv r1 h1) H1 vs xs z Q (fun p l => R1.lv l) x1 z1 fun u H' gr t => z2 r1 H' (R1.grow gr) (.grow gr) u t
/-- a built-in that makes a list -/
def PureN (K : PySem.W.Frag) (r : List V → Hp → VK → Prop) (g : List PyData → Option (List PyData)) : Prop :=
  ∀ (L : Addr → Prop) (H : Hp) (vs : List V) (xs ds : List PyData) (Q : VK), WWs K L H vs xs → g xs = some ds → (∀ p ws, H p = none → TRs K L H ws ds → Q (.ref p) (upd H p (.lst ws))) → r vs H Q
def dCN (c : Bool) (g : List PyData → Option (List PyData)) (ms : DS → M (List D)) : DS → M D := fun S => bd (ms S) fun ds => bd (rdws ds) fun xs => bd (opt (g xs)) fun z => mk c z
theorem cn_imp {c : Bool} {r : List V → Hp → VK → Prop} {g : List PyData → Option (List PyData)} {K : PySem.W.Frag} {ms : DS → M (List D)} (hg : PureN K r g) (s : St) (H : Hp) (Q : VK) : tD K WE (dCN c g ms) s H Q → tCB r (tDA K WE ms) s H Q := by
  rintro ⟨r0, S, h, R, p⟩
  refine ⟨r0, S, h, R, p.bd.mono fun ds r1 h1 H1 R1 E1 q vs dvs => ?_⟩
  obtain ⟨xs, x1, x2⟩ := rdws_ok R1 dvs q.bd
  obtain ⟨z, z1, z2⟩ := x2.bd.opt R1
  refine hg (Lv r1 h1) H1 vs xs z Q x1 z1 fun p ws np t => ?_
  obtain ⟨d, r', h', R', E', d1, g1⟩ := mk_ok R1 t np z2
  exact g1 _ d1
section
variable {x : Str} {p pos : Pos} {e : Expr} {es : List Expr} {ms : DS → M (List D)} {r : List V → Hp → VK → Prop} {g : List PyData → Option PyData} {gn : List PyData → Option (List PyData)}
theorem de_bw {id : String} (hc : CallR X (.builtin id) r) (hg : PureW X.K r g) (gl : Gl X x) (hm : X.mg x = none) (hv : bootBuiltins x = some (.builtin id)) (ha : DA X WE (e :: es) ms) (hn : x ≠ "__name__" := by decide) (hdb : (x == ("__debug__" : Str)) = false := by decide)
    (he : starEach (e :: es) X.env = (false, eval e X.env) :: starEach es X.env := by rfl) (hpl : (backTo pos (starEach es X.env)).any (·.1) = false := by rfl) : DE X WE (.Call (.Name x p) (e :: es) [] pos) (dCW g ms) :=
  PE.imp (pe_callB hc gl hm hv ha hn hdb he hpl) (cw_imp hg)
theorem de_tw {T : String} (hc : CallR X (.type T) r) (hg : PureW X.K r g) (gl : Gl X x) (hm : X.mg x = none) (hv : bootBuiltins x = some (.type T)) (ha : DA X WE (e :: es) ms) (hn : x ≠ "__name__" := by decide) (hdb : (x == ("__debug__" : Str)) = false := by decide)
    (he : starEach (e :: es) X.env = (false, eval e X.env) :: starEach es X.env := by rfl) (hpl : (backTo pos (starEach es X.env)).any (·.1) = false := by rfl) : DE X WE (.Call (.Name x p) (e :: es) [] pos) (dCW g ms) :=
  PE.imp (pe_callTy hc gl hm hv ha hn hdb he hpl) (cw_imp hg)
theorem de_bn (c : Bool) {id : String} (hc : CallR X (.builtin id) r) (hg : PureN X.K r gn) (gl : Gl X x) (hm : X.mg x = none) (hv : bootBuiltins x = some (.builtin id)) (ha : DA X WE (e :: es) ms) (hn : x ≠ "__name__" := by decide) (hdb : (x == ("__debug__" : Str)) = false := by decide)
    (he : starEach (e :: es) X.env = (false, eval e X.env) :: starEach es X.env := by rfl) (hpl : (backTo pos (starEach es X.env)).any (·.1) = false := by rfl) : DE X WE (.Call (.Name x p) (e :: es) [] pos) (dCN c gn ms) :=
  PE.imp (pe_callB hc gl hm hv ha hn hdb he hpl) (cn_imp hg)
theorem de_tn (c : Bool) {T : String} (hc : CallR X (.type T) r) (hg : PureN X.K r gn) (gl : Gl X x) (hm : X.mg x = none) (hv : bootBuiltins x = some (.type T)) (ha : DA X WE (e :: es) ms) (hn : x ≠ "__name__" := by decide) (hdb : (x == ("__debug__" : Str)) = false := by decide)
    (he : starEach (e :: es) X.env = (false, eval e X.env) :: starEach es X.env := by rfl) (hpl : (backTo pos (starEach es X.env)).any (·.1) = false := by rfl) : DE X WE (.Call (.Name x p) (e :: es) [] pos) (dCN c gn ms) :=
  PE.imp (pe_callTy hc gl hm hv ha hn hdb he hpl) (cn_imp hg)
end
end
section
variable {K : PySem.W.Frag} {X : Cx}
theorem WWs.one {L : Addr → Prop} {H : Hp} {vs : List V} {a : PyData} (w : WWs K L H vs [a]) : ∃ v, vs = [v] ∧ WW K L H v a := by
  cases w with
  | cons x y => cases y; exact ⟨_, rfl, x⟩
theorem WWs.two {L : Addr → Prop} {H : Hp} {vs : List V} {a b : PyData} (w : WWs K L H vs [a, b]) : ∃ v u, vs = [v, u] ∧ WW K L H v a ∧ WW K L H u b := by
  cases w with
  | cons x y => cases y with
    | cons y z => cases z; exact ⟨_, _, rfl, x, y⟩
/-- len -/
def lenP : List PyData → Option PyData
  | [.str x] => if x.length ≤ sizeLine then some (.int x.length) else none
  | [.list ds] => some (.int ds.length)
  | [.tuple ds] => some (.int ds.length)
  | _ => none
theorem pw_len : PureW K (fun xs H Q => ∃ x n, xs = [x] ∧ LenV K x H n ∧ Q (.int n) H) lenP := by
  intro L H vs xs z Q hL w0 e k
  unfold lenP at e
  split at e
  · obtain ⟨v, rfl, w⟩ := w0.one
    cases w
    split at e
    · rename_i hl
      cases e
      exact ⟨.str _, _, rfl, ⟨hl, rfl⟩, k _ H Grow.refl (.int _)⟩
    · cases e
  · obtain ⟨v, rfl, w⟩ := w0.one
    obtain ⟨a, ys, rfl, e1, t1⟩ := w
    cases e
    refine ⟨.ref a, ys.length, rfl, (show _ ∨ _ from .inl ⟨ys, e1, rfl⟩), ?_⟩
    rw [t1.length]
    exact k _ H Grow.refl (.int _)
  · obtain ⟨v, rfl, w⟩ := w0.one
    cases w with
    | @tup a ys _ e1 n1 t1 =>
      cases e
      refine ⟨.ref a, ys.length, rfl, (show _ ∨ _ from .inr ⟨ys, SqT.of e1, rfl⟩), ?_⟩
      rw [t1.length]
      exact k _ H Grow.refl (.int _)
  · cases e
def absP : List PyData → Option PyData
  | [.int i] => some (.int (if i < 0 then -i else i))
  | _ => none
theorem pw_abs : PureW K (fun xs H Q => ∃ i, xs = [.int i] ∧ Q (.int (if i < 0 then -i else i)) H) absP := by
  intro L H vs xs z Q hL w0 e k
  unfold absP at e
  split at e
  · obtain ⟨v, rfl, w⟩ := w0.one
    cases w; cases e
    exact ⟨_, rfl, k _ H Grow.refl (.int _)⟩
  · cases e
def intP : List PyData → Option PyData
  | [.int i] => some (.int i)
  | [.bool b] => some (.int (if b then 1 else 0))
  | _ => none
theorem pw_int : PureW K (fun xs H Q => (∃ i, xs = [.int i] ∧ Q (.int i) H) ∨ ∃ k, xs = [.bl k] ∧ Q (.int (if k then 1 else 0)) H) intP := by
  intro L H vs xs z Q hL w0 e k
  unfold intP at e
  split at e
  · obtain ⟨v, rfl, w⟩ := w0.one
    cases w; cases e
    exact .inl ⟨_, rfl, k _ H Grow.refl (.int _)⟩
  · obtain ⟨v, rfl, w⟩ := w0.one
    cases w; cases e
    exact .inr ⟨_, rfl, k _ H Grow.refl (.int _)⟩
  · cases e
/-- max, min: two ints, or a list of ints -/
def intsP : List PyData → Option (List Int)
  | [] => some []
  | .int i :: ds => (intsP ds).map (i :: ·)
  | _ => none
theorem intsP_of : ∀ {ds : List PyData} {ns : List Int}, intsP ds = some ns → ds = ns.map .int
  | [], ns, e => by cases e; rfl
  | d :: ds, ns, e => by
    cases d with
    | int i =>
      simp only [intsP] at e
      cases q : intsP ds with
      | none => rw [q] at e; cases e
      | some ms => rw [q] at e; cases e; rw [intsP_of q]; rfl
    | _ => cases e
theorem intsP_map (ns : List Int) : intsP (ns.map .int) = some ns := by
  induction ns with
  | nil => rfl
  | cons n ns ih => simp [intsP, ih]
theorem trs_ints_inv {L : Addr → Prop} {H : Hp} : ∀ {ns : List Int} {vs : List V}, TRs K L H vs (ns.map PyData.int) → vs = ns.map V.int
  | [], _, h => by cases h; rfl
  | n :: ns, _, h => by
    cases h with
    | cons a b => cases a; rw [trs_ints_inv b]; rfl
def maxI : List Int → Int
  | [] => 0
  | [n] => n
  | n :: m :: ns => max n (maxI (m :: ns))
def minI : List Int → Int
  | [] => 0
  | [n] => n
  | n :: m :: ns => min n (minI (m :: ns))
theorem maxI_of : ∀ {ns : List Int} {m : Int}, m ∈ ns → (∀ y ∈ ns, y ≤ m) → m = maxI ns
  | [n], m, h, _ => by simp at h; exact h
  | n :: k :: ns, m, h, g => by
    have g0 := g n (by simp)
    have ih : ∀ m', m' ∈ k :: ns → (∀ y ∈ k :: ns, y ≤ m') → m' = maxI (k :: ns) := fun m' a b => maxI_of a b
    have ex : ∀ l : List Int, l ≠ [] → maxI l ∈ l ∧ ∀ y ∈ l, y ≤ maxI l := by
      intro l
      induction l with
      | nil => intro h; exact absurd rfl h
      | cons a l ih =>
        intro _
        cases l with
        | nil => exact ⟨by simp [maxI], fun y hy => by simp at hy; subst hy; exact Int.le_refl _⟩
        | cons b l =>
          obtain ⟨i1, i2⟩ := ih (by simp)
          show max a (maxI (b :: l)) ∈ a :: b :: l ∧ ∀ y ∈ a :: b :: l, y ≤ max a (maxI (b :: l))
          refine ⟨?_, fun y hy => ?_⟩
          · rcases Int.le_total a (maxI (b :: l)) with z | z
            · rw [Int.max_eq_right z]; exact List.mem_cons_of_mem _ i1
            · rw [Int.max_eq_left z]; exact List.mem_cons_self
          · rcases List.mem_cons.mp hy with rfl | hy
            · exact Int.le_max_left _ _
            · exact Int.le_trans (i2 y hy) (Int.le_max_right _ _)
    obtain ⟨x1, x2⟩ := ex (n :: k :: ns) (by simp)
    exact Int.le_antisymm (x2 m h) (g _ x1)
theorem maxI_mem {l : List Int} (h : l ≠ []) : maxI l ∈ l ∧ ∀ y ∈ l, y ≤ maxI l := by
  induction l with
  | nil => exact absurd rfl h
  | cons a l ih =>
    cases l with
    | nil => exact ⟨by simp [maxI], fun y hy => by simp at hy; subst hy; exact Int.le_refl _⟩
    | cons b l =>
      obtain ⟨i1, i2⟩ := ih (by simp)
      show max a (maxI (b :: l)) ∈ a :: b :: l ∧ ∀ y ∈ a :: b :: l, y ≤ max a (maxI (b :: l))
      refine ⟨?_, fun y hy => ?_⟩
      · rcases Int.le_total a (maxI (b :: l)) with z | z
        · rw [Int.max_eq_right z]; exact List.mem_cons_of_mem _ i1
        · rw [Int.max_eq_left z]; exact List.mem_cons_self
      · rcases List.mem_cons.mp hy with rfl | hy
        · exact Int.le_max_left _ _
        · exact Int.le_trans (i2 y hy) (Int.le_max_right _ _)
theorem minI_mem {l : List Int} (h : l ≠ []) : minI l ∈ l ∧ ∀ y ∈ l, minI l ≤ y := by
  induction l with
  | nil => exact absurd rfl h
  | cons a l ih =>
    cases l with
    | nil => exact ⟨by simp [minI], fun y hy => by simp at hy; subst hy; exact Int.le_refl _⟩
    | cons b l =>
      obtain ⟨i1, i2⟩ := ih (by simp)
      show min a (minI (b :: l)) ∈ a :: b :: l ∧ ∀ y ∈ a :: b :: l, min a (minI (b :: l)) ≤ y
      refine ⟨?_, fun y hy => ?_⟩
      · rcases Int.le_total a (minI (b :: l)) with z | z
        · rw [Int.min_eq_left z]; exact List.mem_cons_self
        · rw [Int.min_eq_right z]; exact List.mem_cons_of_mem _ i1
      · rcases List.mem_cons.mp hy with rfl | hy
        · exact Int.min_le_left _ _
        · exact Int.le_trans (Int.min_le_right _ _) (i2 y hy)
def maxP : List PyData → Option PyData
  | [.int i, .int j] => some (.int (if j > i then j else i))
  | [.list ds] => (intsP ds).bind fun ns => if ns = [] then none else some (.int (maxI ns))
  | _ => none
def minP : List PyData → Option PyData
  | [.int i, .int j] => some (.int (if j < i then j else i))
  | [.list ds] => (intsP ds).bind fun ns => if ns = [] then none else some (.int (minI ns))
  | _ => none
theorem call_maxA (hc : X.calm = true) : CallR X (.builtin "max") (fun xs H Q => (∃ i j, xs = [.int i, .int j] ∧ Q (.int (if j > i then j else i)) H) ∨ rMax X.K xs H Q) := (call_max2 hc).or (cr_max hc)
theorem call_minA (hc : X.calm = true) : CallR X (.builtin "min") (fun xs H Q => (∃ i j, xs = [.int i, .int j] ∧ Q (.int (if j < i then j else i)) H) ∨ rMin X.K xs H Q) := (call_min2 hc).or (cr_min hc)
theorem pw_max : PureW K (fun xs H Q => (∃ i j, xs = [.int i, .int j] ∧ Q (.int (if j > i then j else i)) H) ∨ rMax K xs H Q) maxP := by
  intro L H vs xs z Q hL w0 e k
  unfold maxP at e
  split at e
  · obtain ⟨v, u, rfl, w1, w2⟩ := w0.two
    cases w1; cases w2; cases e
    exact .inl ⟨_, _, rfl, k _ H Grow.refl (.int _)⟩
  · rename_i ds
    obtain ⟨v, rfl, w⟩ := w0.one
    obtain ⟨a, ys, rfl, e1, t1⟩ := w
    cases q : intsP ds with
    | none => rw [q] at e; cases e
    | some ns =>
      rw [q] at e
      simp only [Option.bind] at e
      split at e
      · cases e
      · rename_i hne
        cases e
        rw [intsP_of q] at t1
        have := trs_ints_inv t1
        subst this
        refine .inr ⟨a, ns, rfl, e1, List.length_pos_iff.mpr hne, fun m hm hle => ?_⟩
        rw [maxI_of hm hle]
        exact k _ H Grow.refl (.int _)
  · cases e
theorem pw_min : PureW K (fun xs H Q => (∃ i j, xs = [.int i, .int j] ∧ Q (.int (if j < i then j else i)) H) ∨ rMin K xs H Q) minP := by
  intro L H vs xs z Q hL w0 e k
  unfold minP at e
  split at e
  · obtain ⟨v, u, rfl, w1, w2⟩ := w0.two
    cases w1; cases w2; cases e
    exact .inl ⟨_, _, rfl, k _ H Grow.refl (.int _)⟩
  · rename_i ds
    obtain ⟨v, rfl, w⟩ := w0.one
    obtain ⟨a, ys, rfl, e1, t1⟩ := w
    cases q : intsP ds with
    | none => rw [q] at e; cases e
    | some ns =>
      rw [q] at e
      simp only [Option.bind] at e
      split at e
      · cases e
      · rename_i hne
        cases e
        rw [intsP_of q] at t1
        have := trs_ints_inv t1
        subst this
        refine .inr ⟨a, ns, rfl, e1, List.length_pos_iff.mpr hne, fun m hm hle => ?_⟩
        have z := minI_mem hne
        rw [show m = minI ns from Int.le_antisymm (hle _ z.1) (z.2 m hm)]
        exact k _ H Grow.refl (.int _)
  · cases e
def sumP : List PyData → Option PyData
  | [.list ds] => (intsP ds).map fun ns => .int ns.sum
  | _ => none
theorem pw_sum : PureW K (rSum K) sumP := by
  intro L H vs xs z Q hL w0 e k
  unfold sumP at e
  split at e
  · rename_i ds
    obtain ⟨v, rfl, w⟩ := w0.one
    obtain ⟨a, ys, rfl, e1, t1⟩ := w
    cases q : intsP ds with
    | none => rw [q] at e; cases e
    | some ns =>
      rw [q] at e
      cases e
      rw [intsP_of q] at t1
      have := trs_ints_inv t1
      subst this
      exact ⟨a, ns, rfl, e1, k _ H Grow.refl (.int _)⟩
  · cases e
def boolsP : List PyData → Option (List Bool)
  | [] => some []
  | .bool b :: ds => (boolsP ds).map (b :: ·)
  | _ => none
theorem boolsP_of : ∀ {ds : List PyData} {ns : List Bool}, boolsP ds = some ns → ds = ns.map .bool
  | [], ns, e => by cases e; rfl
  | d :: ds, ns, e => by
    cases d with
    | bool i =>
      simp only [boolsP] at e
      cases q : boolsP ds with
      | none => rw [q] at e; cases e
      | some ms => rw [q] at e; cases e; rw [boolsP_of q]; rfl
    | _ => cases e
theorem boolsP_map (ns : List Bool) : boolsP (ns.map .bool) = some ns := by
  induction ns with
  | nil => rfl
  | cons n ns ih => simp [boolsP, ih]
theorem trs_bools_inv {L : Addr → Prop} {H : Hp} : ∀ {ns : List Bool} {vs : List V}, TRs K L H vs (ns.map PyData.bool) → vs = ns.map V.bl
  | [], _, h => by cases h; rfl
  | n :: ns, _, h => by
    cases h with
    | cons a b => cases a; rw [trs_bools_inv b]; rfl
def allP : List PyData → Option PyData
  | [.list ds] => (boolsP ds).map fun bs => .bool (bs.all id)
  | _ => none
def anyP : List PyData → Option PyData
  | [.list ds] => (boolsP ds).map fun bs => .bool (bs.any id)
  | _ => none
theorem pw_all : PureW K (rAll K) allP := by
  intro L H vs xs z Q hL w0 e k
  unfold allP at e
  split at e
  · rename_i ds
    obtain ⟨v, rfl, w⟩ := w0.one
    obtain ⟨a, ys, rfl, e1, t1⟩ := w
    cases q : boolsP ds with
    | none => rw [q] at e; cases e
    | some ns =>
      rw [q] at e
      cases e
      rw [boolsP_of q] at t1
      have := trs_bools_inv t1
      subst this
      exact ⟨a, ns, rfl, e1, k _ H Grow.refl (.bl _)⟩
  · cases e
theorem pw_any : PureW K (rAny K) anyP := by
  intro L H vs xs z Q hL w0 e k
  unfold anyP at e
  split at e
  · rename_i ds
    obtain ⟨v, rfl, w⟩ := w0.one
    obtain ⟨a, ys, rfl, e1, t1⟩ := w
    cases q : boolsP ds with
    | none => rw [q] at e; cases e
    | some ns =>
      rw [q] at e
      cases e
      rw [boolsP_of q] at t1
      have := trs_bools_inv t1
      subst this
      exact ⟨a, ns, rfl, e1, k _ H Grow.refl (.bl _)⟩
  · cases e
/-- tuple(xs) -/
def tupP : List PyData → Option PyData
  | [.list ds] => some (.tuple ds)
  | [.tuple ds] => some (.tuple ds)
  | _ => none
theorem pw_tup : PureW K (fun xs H Q => ∃ p ys, xs = [.ref p] ∧ ((SqL K H p ys ∧ ∀ l, H l = none → Q (.ref l) (upd H l (.tup ys))) ∨ (SqT K H p ys ∧ Q (.ref p) H))) tupP := by
  intro L H vs xs z Q hL w0 e k
  unfold tupP at e
  split at e
  · obtain ⟨v, rfl, w⟩ := w0.one
    obtain ⟨a, ys, rfl, e1, t1⟩ := w
    cases e
    exact ⟨a, ys, rfl, .inl ⟨e1, fun l nl => newT hL nl t1 k⟩⟩
  · obtain ⟨v, rfl, w⟩ := w0.one
    cases w with
    | tup e1 n1 t1 =>
      cases e
      exact ⟨_, _, rfl, .inr ⟨SqT.of e1, k _ H Grow.refl (.tup e1 n1 t1)⟩⟩
  · cases e
/-- list(xs), list(text) -/
def signsP (x : Str) : List PyData := x.cps.toList.map fun c => .str (tx [c])
def listP : List PyData → Option (List PyData)
  | [.list ds] => some ds
  | [.tuple ds] => some ds
  | [.str x] => if x.length ≤ sizeLine then some (signsP x) else none
  | _ => none
theorem call_listS (hc : X.calm = true) : CallR X (.type "list") (fun xs H Q => ∃ x, xs = [.str x] ∧ x.length ≤ sizeLine ∧ ∀ l, H l = none → Q (.ref l) (upd H l (.lst (x.cps.toList.map fun c => V.str (tx [c]))))) := by
  intro pins s σ H xs us Q I rv h
  obtain ⟨x, rfl, hx, q⟩ := h
  obtain ⟨u, rfl, ⟨t, rfl⟩⟩ := vals1 rv
  refine call_list_str (I.ok.hd hc) x t (hn := hx) fun h' tk acc c' hk hS hA => ?_
  have np : H s.heap.objs.size = none := I.fresh
  have rel : Vals (x.cps.toList.map fun c => V.str (tx [c])) acc.toList := by
    obtain ⟨h1, h2⟩ := hA
    have key : ∀ (l : List Nat) (vs : List Value), vs.length = l.length → (∀ (j : Nat) v, vs[j]? = some v → ∃ c u, l[j]? = some c ∧ v = Value.str ⟨#[c]⟩ u) → Vals (l.map fun c => V.str (tx [c])) vs := by
      intro l
      induction l with
      | nil =>
        intro vs hl _
        cases vs with
        | nil => exact .nil
        | cons v vs => cases hl
      | cons c l ih =>
        intro vs hl hv
        cases vs with
        | nil => cases hl
        | cons v vs =>
          obtain ⟨c', u, e1, e2⟩ := hv 0 v (by simp)
          simp at e1
          subst e1
          exact .cons ⟨u, e2⟩ (ih vs (by simpa using hl) fun j v' q => by
            obtain ⟨c2, u2, f1, f2⟩ := hv (j + 1) v' (by simpa using q)
            exact ⟨c2, u2, by simpa using f1, f2⟩)
    refine key _ _ (by simp [h1]) fun j v q => ?_
    obtain ⟨c2, u2, f1, f2⟩ := h2 j v (by simpa using q)
    exact ⟨c2, u2, by simpa using f1, f2⟩
  have ok : ObjOk X.prog X.w (upd H s.heap.objs.size (.lst (x.cps.toList.map fun c => V.str (tx [c])))) h' s.heap.objs.size (.lst (x.cps.toList.map fun c => V.str (tx [c]))) :=
    ⟨by simpa [Str.length] using hx, acc.toList, c', rel, by simpa using hS⟩
  exact ⟨.ref s.heap.objs.size, _, I.laid hk (Nat.le_refl _) ok, rfl, q _ np⟩
end
end DL
set_option Elab.async false
set_option linter.all false
set_option maxRecDepth 100000
set_option maxHeartbeats 2000000
set_option autoImplicit false
namespace DL
open PySem PySem.Spec L2
open PyProof.Rows hiding St

section
variable {K : PySem.W.Frag} {X : Cx} {WE : EW}
theorem trs_signs {L : Addr → Prop} {H : Hp} : ∀ l : List Nat, TRs K L H (l.map fun c => V.str (tx [c])) (l.map fun c => PyData.str (tx [c]))
  | [] => .nil
  | c :: l => .cons (.str _) (trs_signs l)
def rListA (K : PySem.W.Frag) : List V → Hp → VK → Prop := fun xs H Q => (∃ p ys, xs = [.ref p] ∧ (SqL K H p ys ∨ SqT K H p ys) ∧ ∀ l, H l = none → Q (.ref l) (upd H l (.lst ys))) ∨ ∃ x, xs = [.str x] ∧ x.length ≤ sizeLine ∧ ∀ l, H l = none → Q (.ref l) (upd H l (.lst (x.cps.toList.map fun c => V.str (tx [c]))))
theorem call_listA (hc : X.calm = true) : CallR X (.type "list") (rListA X.K) := call_list_of.or (call_listS hc)
theorem pn_list : PureN K (rListA K) listP := by
  intro L H vs xs ds Q w0 e k
  unfold listP at e
  split at e
  · obtain ⟨v, rfl, w⟩ := w0.one
    obtain ⟨a, ys, rfl, e1, t1⟩ := w
    cases e
    exact .inl ⟨a, ys, rfl, .inl e1, fun l nl => k l ys nl t1⟩
  · obtain ⟨v, rfl, w⟩ := w0.one
    cases w with
    | @tup a ys _ e1 n1 t1 =>
      cases e
      exact .inl ⟨a, ys, rfl, .inr (SqT.of e1), fun l nl => k l ys nl t1⟩
  · obtain ⟨v, rfl, w⟩ := w0.one
    cases w
    split at e
    · rename_i hl
      cases e
      exact .inr ⟨_, rfl, hl, fun l nl => k l _ nl (trs_signs _)⟩
    · cases e
  · cases e
/-- list(range(..)) -/
def dRgL (c : Bool) (m : DS → M (List PyData)) : DS → M D := fun S => bd (m S) fun ds => if ds.length ≤ sizeLine then mk c ds else fail
/-- sorted of ints -/
def insI (n : Int) : List Int → List Int
  | [] => [n]
  | m :: ms => if n ≤ m then n :: m :: ms else m :: insI n ms
def sortI (l : List Int) : List Int := l.foldr insI []
theorem insI_perm (n : Int) : ∀ l, (insI n l).Perm (n :: l)
  | [] => .refl _
  | m :: ms => by
    unfold insI
    split
    · exact .refl _
    · exact ((insI_perm n ms).cons m).trans (.swap n m ms)
theorem sortI_perm : ∀ l : List Int, (sortI l).Perm l
  | [] => .refl _
  | n :: l => (insI_perm n (sortI l)).trans ((sortI_perm l).cons n)
theorem insI_sorted {n : Int} : ∀ {l : List Int}, l.Pairwise (· ≤ ·) → (insI n l).Pairwise (· ≤ ·)
  | [], _ => by simp [insI]
  | m :: ms, h => by
    unfold insI
    split
    · rename_i hm
      rw [List.pairwise_cons] at h ⊢
      refine ⟨fun y hy => ?_, List.pairwise_cons.mpr h⟩
      rcases List.mem_cons.mp hy with rfl | hy
      · exact hm
      · exact Int.le_trans hm (h.1 y hy)
    · rename_i hm
      rw [List.pairwise_cons] at h ⊢
      refine ⟨fun y hy => ?_, insI_sorted h.2⟩
      rcases List.mem_cons.mp ((insI_perm n ms).mem_iff.mp hy) with rfl | hy
      · omega
      · exact h.1 y hy
theorem sortI_sorted : ∀ l : List Int, (sortI l).Pairwise (· ≤ ·)
  | [] => .nil
  | n :: l => insI_sorted (sortI_sorted l)
theorem sorted_one : ∀ {l m : List Int}, l.Perm m → l.Pairwise (· ≤ ·) → m.Pairwise (· ≤ ·) → l = m
  | [], m, p, _, _ => by
    have := p.length_eq
    cases m with
    | nil => rfl
    | cons => cases this
  | a :: l, m, p, hl, hm => by
    cases m with
    | nil => have := p.length_eq; cases this
    | cons b m =>
      rw [List.pairwise_cons] at hl hm
      have h1 : b ≤ a := by
        rcases List.mem_cons.mp (p.mem_iff.mp List.mem_cons_self) with z | z
        · omega
        · exact hm.1 a z
      have h2 : a ≤ b := by
        rcases List.mem_cons.mp (p.mem_iff.mpr List.mem_cons_self) with z | z
        · omega
        · exact hl.1 b z
      have e : a = b := Int.le_antisymm h2 h1
      subst e
      rw [sorted_one (List.perm_cons a |>.mp p) hl.2 hm.2]
def sortP : List PyData → Option (List PyData)
  | [.list ds] => (intsP ds).map fun ns => (sortI ns).map .int
  | _ => none
theorem pn_sort : PureN K (fun vs H Q => ∃ (a : Addr) (ns : List Int), vs = [V.ref a] ∧ SqL K H a (ns.map V.int) ∧ ∀ (ns' : List Int) (p : Addr), ns'.Perm ns → ns'.Pairwise (· ≤ ·) → H p = none → Q (.ref p) (upd H p (.lst (ns'.map V.int)))) sortP := by
  intro L H vs xs ds Q w0 e k
  unfold sortP at e
  split at e
  · rename_i es
    obtain ⟨v, rfl, w⟩ := w0.one
    obtain ⟨a, ys, rfl, e1, t1⟩ := w
    cases q : intsP es with
    | none => rw [q] at e; cases e
    | some ns =>
      rw [q] at e
      cases e
      rw [intsP_of q] at t1
      have := trs_ints_inv t1
      subst this
      refine ⟨a, ns, rfl, e1, fun ns' p hp hs np => ?_⟩
      rw [sorted_one (hp.trans (sortI_perm ns).symm) hs (sortI_sorted ns)]
      exact k p _ np (trs_ints _)
  · cases e
/-! subscripts -/
def PureX (K : PySem.W.Frag) (r : R2) (g : PyData → PyData → Option PyData) : Prop :=
  ∀ (L : Addr → Prop) (H : Hp) (x y : V) (a b z : PyData) (Q : VK), (∀ p, L p → ∃ o, H p = some o) → WW K L H x a → WW K L H y b → g a b = some z → (∀ v, TR K L H v z → Q v H) → r x y H Q
def dIx (g : PyData → PyData → Option PyData) (ma mb : DS → M D) : DS → M D := fun S => bd (ma S) fun a => bd (mb S) fun b => bd (rdw a) fun x => bd (rdw b) fun y => bd (opt (g x y)) fun z => ret (.t z)
def ixP : PyData → PyData → Option PyData
  | .list ds, .int i => atI ds i
  | .tuple ds, .int i => atI ds i
  | .str x, .int i => if x.length ≤ sizeLine then (atI x.cps.toList i).map fun c => .str (tx [c]) else none
  | _, _ => none
theorem trs_at {L : Addr → Prop} {H : Hp} {vs : List V} {ds : List PyData} {i : Int} {d : PyData} (t : TRs K L H vs ds) (e : atI ds i = some d) : ∃ v, atI vs i = some v ∧ TR K L H v d := by
  unfold atI at e ⊢
  rw [t.length]
  cases q : ixN ds.length i with
  | none => rw [q] at e; cases e
  | some j =>
    rw [q] at e
    simp only [Option.bind] at e ⊢
    exact t.get e
theorem px_ix : PureX K (rIx K) ixP := by
  intro L H x y a b z Q hL wa wb e k
  unfold ixP at e
  split at e
  · obtain ⟨p, ys, rfl, e1, t1⟩ := wa
    cases wb
    obtain ⟨v, e2, t2⟩ := trs_at t1 e
    exact .inl ⟨p, ys, _, v, rfl, rfl, e1, e2, k v t2⟩
  · cases wa with
    | @tup p ys _ e1 n1 t1 =>
      cases wb
      obtain ⟨v, e2, t2⟩ := trs_at t1 e
      exact .inr (.inl ⟨p, ys, _, v, rfl, rfl, SqT.of e1, e2, k v t2⟩)
  · cases wa; cases wb
    split at e
    · rename_i hl
      rename_i x i
      cases q : atI x.cps.toList i with
      | none => rw [q] at e; cases e
      | some c =>
        rw [q] at e
        cases e
        exact .inr (.inr ⟨_, _, c, rfl, rfl, hl, q, k _ (.str _)⟩)
    · cases e
  · cases e
theorem de_ix {a b : Expr} {ma mb : DS → M D} {pos : Pos} (ha : DE X WE a ma) (hb : DE X WE b mb) (hs : PlainIx b) : DE X WE (.Subscript a b pos) (dIx ixP ma mb) :=
  PE.imp (pe_ix ix_seq ha hb hs) fun s H Q ⟨r0, S, h, R, p⟩ => ⟨r0, S, h, R, p.bd.mono fun a r1 h1 H1 R1 E1 q v dv => ⟨r1, S, h1, R1, q.bd.mono fun b r2 h2 H2 R2 E2 q2 w dw => by
    obtain ⟨x, x1, x2⟩ := rdw_ok R2 (dv.ext E2) q2.bd
    obtain ⟨y, y1, y2⟩ := rdw_ok R2 dw x2.bd
    obtain ⟨z, z1, z2⟩ := y2.bd.opt R2
    exact px_ix (Lv r2 h2) H2 v w x y z Q (fun p l => R2.lv l) x1 y1 z1 fun u t => z2 r2 H2 R2 .refl u t⟩⟩
/-! slices -/
def tDO (K : PySem.W.Frag) (WE : EW) (m : DS → M (Option Int)) : TO := fun s H Q => ∃ r S h, Rel K r S h s H ∧ Post K WE r S h s H (m S h) (fun o r' h' H' => Q o H')
def DO' (X : Cx) (WE : EW) (e : Option Expr) (m : DS → M (Option Int)) : Prop := PO X e (tDO X.K WE m)
theorem PO.imp {e : Option Expr} {t t' : TO} (p : PO X e t) (i : ∀ s H Q, t' s H Q → t s H Q) : PO X e t' := ⟨fun a b c d Q I q => p.run a b c d Q I (i _ _ _ q)⟩
def oNone : DS → M (Option Int) := fun _ => ret none
def oSome (m : DS → M D) : DS → M (Option Int) := fun S => bd (m S) fun d => match d with
  | .t (.int i) => ret (some i)
  | _ => fail
theorem do_none : DO' X WE none oNone := PO.imp po_none fun s H Q ⟨r, S, h, R, p⟩ => p r H R .refl
theorem do_some {e : Expr} {m : DS → M D} (he : DE X WE e m) : DO' X WE (some e) (oSome m) :=
  PO.imp (po_some he) fun s H Q ⟨r, S, h, R, p⟩ => ⟨r, S, h, R, p.bd.mono fun d r1 h1 H1 R1 E1 q v dv => by
    cases d with
    | t d =>
      cases d with
      | int i => cases dv; exact ⟨i, rfl, q r1 H1 R1 .refl⟩
      | _ => exact False.elim q
    | _ => exact False.elim q⟩
def cutP {α : Type} (xs : List α) (lo hi : Option Int) : List α := (xs.drop (HT.sIx xs.length 0 lo)).take (HT.sIx xs.length xs.length hi - HT.sIx xs.length 0 lo)
theorem trs_cut {L : Addr → Prop} {H : Hp} {vs : List V} {ds : List PyData} (lo hi : Option Int) (t : TRs K L H vs ds) : TRs K L H (cutV vs lo hi) (cutP ds lo hi) := by
  unfold cutV cutP
  rw [t.length]
  exact (t.drop _).take _
/-- the slice, c: a list's slice is live -/
def slM (c : Bool) (x : PyData) (lo hi : Option Int) : M D := match x with
  | .str z => if z.length ≤ sizeLine then ret (.t (.str (cutS z lo hi))) else fail
  | .list ds => mk c (cutP ds lo hi)
  | .tuple ds => ret (.t (.tuple (cutP ds lo hi)))
  | _ => fail
def dSl (c : Bool) (m : DS → M D) (ml mh : DS → M (Option Int)) : DS → M D := fun S => bd (m S) fun a => bd (ml S) fun lo => bd (mh S) fun hi => bd (rdw a) fun x => slM c x lo hi
theorem de_sl (c : Bool) {e : Expr} {lo hi : Option Expr} {m : DS → M D} {ml mh : DS → M (Option Int)} {p2 pos : Pos} (he : DE X WE e m) (hl : DO' X WE lo ml) (hh : DO' X WE hi mh) : DE X WE (.Subscript e (.Slice lo hi none p2) pos) (dSl c m ml mh) :=
  PE.imp (pe_slice ((sl_str.or sl_list).or sl_tupA) he hl hh) fun s H Q ⟨r0, S, h, R, p⟩ => ⟨r0, S, h, R, p.bd.mono fun a r1 h1 H1 R1 E1 q v dv => ⟨r1, S, h1, R1, q.bd.mono fun lo r2 h2 H2 R2 E2 q2 => ⟨r2, S, h2, R2, q2.bd.mono fun hi r3 h3 H3 R3 E3 q3 => by
    obtain ⟨x, x1, x2⟩ := rdw_ok R3 ((dv.ext E2).ext E3) q3.bd
    unfold slM at x2
    split at x2
    · split at x2
      · rename_i hz
        cases x1
        exact .inl (.inl ⟨_, rfl, hz, x2 r3 H3 R3 .refl _ (.str _)⟩)
      · exact False.elim x2
    · obtain ⟨p, ys, rfl, e1, t1⟩ := x1
      refine .inl (.inr ⟨p, ys, rfl, e1, fun p np => ?_⟩)
      obtain ⟨d, r', h', R', E', d1, g1⟩ := mk_ok R3 (trs_cut lo hi t1) np x2
      exact g1 _ d1
    · rename_i ds
      cases x1 with
      | @tup p ys _ e1 n1 t1 =>
        refine .inr ⟨p, ys, rfl, SqT.of e1, fun w => ?_, fun w p np => ?_⟩
        · have e2 : cutP ds lo hi = ds := by
            unfold cutP
            rw [← t1.length, w.1, w.2]
            have := t1.length
            simp [this]
          rw [e2] at x2
          exact x2 r3 H3 R3 .refl _ (.tup e1 n1 t1)
        · have g : Grow H3 (upd H3 p (.tup (cutV ys lo hi))) := Grow.upd np
          have E4 : Ext r3 h3 H3 r3 h3 (upd H3 p (.tup (cutV ys lo hi))) := .grow g
          exact x2 r3 _ (R3.grow g) E4 _ (.tup upd_same (R3.fresh np) (TRs.mono E4.keep _ _ (trs_cut lo hi t1)))
    · exact False.elim x2⟩⟩⟩
/-- xs[::-1] of a list -/
def dRev (c : Bool) (m : DS → M D) : DS → M D := fun S => bd (m S) fun a => bd (rdw a) fun x => match x with
  | .list ds => mk c ds.reverse
  | _ => fail
theorem de_rev (c : Bool) {e : Expr} {m : DS → M D} {k : Nat} {p1 p2 p3 pos : Pos} (he : DE X WE e m) : DE X WE (.Subscript e (.Slice none none (some (.UnaryOp .USub (.Constant (.int 1) k p1) p2)) p3) pos) (dRev c m) :=
  PE.imp (pe_revL he) fun s H Q ⟨r0, S, h, R, p⟩ => ⟨r0, S, h, R, p.bd.mono fun a r1 h1 H1 R1 E1 q v dv => by
    obtain ⟨x, x1, x2⟩ := rdw_ok R1 dv q.bd
    cases x with
    | list ds =>
      obtain ⟨p, ys, rfl, e1, t1⟩ := x1
      refine ⟨p, ys, rfl, e1, fun p np => ?_⟩
      obtain ⟨d, r', h', R', E', d1, g1⟩ := mk_ok R1 t1.reverse np x2
      exact g1 _ d1
    | _ => exact False.elim x2⟩
/-- new lists by + and * -/
def dCat (c : Bool) (ma mb : DS → M D) : DS → M D := fun S => bd (ma S) fun a => bd (mb S) fun b => bd (rd a) fun x => bd (rd b) fun y => match x, y with
  | .list xs, .list ys => if xs.length + ys.length ≤ sizeLine then mk c (xs ++ ys) else fail
  | _, _ => fail
theorem de_cat (c : Bool) {a b : Expr} {ma mb : DS → M D} {pos : Pos} (ha : DE X WE a ma) (hb : DE X WE b mb) : DE X WE (.BinOp a .Add b pos) (dCat c ma mb) :=
  PE.imp (pe_op op_cat ha hb) fun s H Q ⟨r0, S, h, R, p⟩ => ⟨r0, S, h, R, p.bd.mono fun a r1 h1 H1 R1 E1 q v dv => ⟨r1, S, h1, R1, q.bd.mono fun b r2 h2 H2 R2 E2 q2 w dw => by
    obtain ⟨x, x1, x2⟩ := rd_ok R2 (dv.ext E2) q2.bd
    obtain ⟨y, y1, y2⟩ := rd_ok R2 dw x2.bd
    cases x with
    | list xs => cases y with
      | list ys =>
        obtain ⟨a1, vs, rfl, e1, t1⟩ := x1
        obtain ⟨a2, ws, rfl, e2, t2⟩ := y1
        simp only [] at y2
        split at y2
        · rename_i hl
          refine ⟨a1, a2, vs, ws, rfl, rfl, e1, e2, by rw [t1.length, t2.length]; exact hl, fun p np => ?_⟩
          obtain ⟨d, r', h', R', E', d1, g1⟩ := mk_ok R2 (t1.append t2) np y2
          exact g1 _ d1
        · exact False.elim y2
      | _ => exact False.elim y2
    | _ => exact False.elim y2⟩⟩
def dRep (c : Bool) (ma mb : DS → M D) : DS → M D := fun S => bd (ma S) fun a => bd (mb S) fun b => bd (rd a) fun x => bd (rd b) fun y => match x, y with
  | .list xs, .int n => if okI n && decide (xs.length * n.toNat ≤ sizeLine) then mk c (List.replicate n.toNat xs).flatten else fail
  | _, _ => fail
theorem de_rep (c : Bool) {a b : Expr} {ma mb : DS → M D} {pos : Pos} (ha : DE X WE a ma) (hb : DE X WE b mb) : DE X WE (.BinOp a .Mult b pos) (dRep c ma mb) :=
  PE.imp (pe_op op_rep ha hb) fun s H Q ⟨r0, S, h, R, p⟩ => ⟨r0, S, h, R, p.bd.mono fun a r1 h1 H1 R1 E1 q v dv => ⟨r1, S, h1, R1, q.bd.mono fun b r2 h2 H2 R2 E2 q2 w dw => by
    obtain ⟨x, x1, x2⟩ := rd_ok R2 (dv.ext E2) q2.bd
    obtain ⟨y, y1, y2⟩ := rd_ok R2 dw x2.bd
    cases x with
    | list xs => cases y with
      | int n =>
        obtain ⟨a1, vs, rfl, e1, t1⟩ := x1
        cases y1
        simp only [] at y2
        split at y2
        · rename_i hl
          rw [Bool.and_eq_true] at hl
          refine ⟨a1, n, vs, rfl, rfl, e1, (okI_of hl.1).1, (okI_of hl.1).2, by rw [t1.length]; exact of_decide_eq_true hl.2, fun p np => ?_⟩
          obtain ⟨d, r', h', R', E', d1, g1⟩ := mk_ok R2 (t1.rep _) np y2
          exact g1 _ d1
        · exact False.elim y2
      | _ => exact False.elim y2
    | _ => exact False.elim y2⟩⟩
/-! isinstance -/
def tyP : PyData → String
  | .none => "NoneType"
  | .bool _ => "bool"
  | .int _ => "int"
  | .str _ => "str"
  | .list _ => "list"
  | .tuple _ => "tuple"
  | .dict _ => "dict"
def isiS (T t : String) : Bool := t == T || (T == "int" && t == "bool")
def isiB (T : String) (d : PyData) : Bool := isiS T (tyP d)
def dIsi (T : String) (m : DS → M D) : DS → M D := fun S => bd (m S) fun a => bd (rd a) fun x => ret (.t (.bool (isiB T x)))
theorem tyx_of {L : Addr → Prop} {H : Hp} {v : V} {d : PyData} (w : WR K L H v d) : TyX K H v (.type (tyP d)) := by
  cases d with
  | none => cases w; exact .base .non
  | bool b => cases w; exact .base (.bl b)
  | int i => cases w; exact .base (.int i)
  | str x => cases w; exact .base (.str x)
  | list ds => obtain ⟨a, xs, rfl, e, t⟩ := w; exact .base (.lst e)
  | tuple ds => cases w with | tup e n t => exact .base (.tup e)
  | dict kvs => cases w
def isiT : List String := ["int", "bool", "str", "list", "tuple", "dict"]
def tyL : List String := ["NoneType", "bool", "int", "str", "list", "tuple", "dict"]
theorem kit_all : (isiT.all fun T => tyL.all fun t => decide (kitB t T = some (isiS T t))) = true := by decide +kernel
theorem tyP_mem (d : PyData) : tyP d ∈ tyL := by cases d <;> simp [tyP, tyL]
theorem kit_isi {T : String} (hT : isiT.contains T = true) (d : PyData) : PySem.W.kitOne K (.type (tyP d)) (.type T) = some (isiB T d) := by
  have h := List.all_eq_true.mp kit_all T (by simpa using hT)
  exact kit_ty (of_decide_eq_true (List.all_eq_true.mp h _ (tyP_mem d)))
theorem de_isi (T : String) {e ty : Expr} {m : DS → M D} {p pos : Pos} (hT : isiT.contains T = true) (gl : Gl X "isinstance") (hm : X.mg "isinstance" = none) (ht : PE X ty (tC (.ty T))) (he : DE X WE e m)
    (hs1 : starEach [e, ty] X.env = (false, eval e X.env) :: starEach [ty] X.env := by rfl) (hs2 : starEach [ty] X.env = (false, eval ty X.env) :: starEach [] X.env := by rfl) (hpl : (backTo pos (starEach [ty] X.env)).any (·.1) = false := by rfl) : DE X WE (.Call (.Name "isinstance" p) [e, ty] [] pos) (dIsi T m) :=
  PE.imp (pe_callB call_isi gl hm (by decide +kernel) (pa_cons he (pa_cons ht pa_nil hs2) hs1) (by decide) (by decide) hs1 hpl) fun s H Q ⟨r0, S, h, R, p⟩ => ⟨r0, S, h, R, p.bd.mono fun a r1 h1 H1 R1 E1 q v dv => by
    obtain ⟨x, x1, x2⟩ := rd_ok R1 dv q.bd
    exact ⟨v, .ty T, _, _, isiB T x, rfl, .ty T, tyx_of x1, kit_isi hT x, x2 r1 H1 R1 .refl _ (.bl _)⟩⟩
/-! repr -/
def okR (d : PyData) : Bool := d.showable && (SeqAt.shaped d && decide (d.shown.length ≤ sizeLine))
def reprP : List PyData → Option PyData
  | [d] => if okR d then some (.str d.shown) else none
  | _ => none
theorem call_reprA (hg : X.A.guards = some []) (hu : X.A.units + 70 < cLine) : CallR X (.builtin "repr") (fun xs H Q => ∃ x d, xs = [x] ∧ Dp X.K H x d ∧ okR d = true ∧ Q (.str d.shown) H) := by
  intro pins s σ H xs us Q I rv h
  obtain ⟨x, d, rfl, dp, ok, q⟩ := h
  obtain ⟨u, rfl, r1⟩ := vals1 rv
  unfold okR at ok
  rw [Bool.and_eq_true, Bool.and_eq_true] at ok
  obtain ⟨o1, o2, o3⟩ := ok
  have o3 := of_decide_eq_true o3
  have dep : d.depth ≤ 64 := SeqAt.depth_of_shaped o2
  have lay : d.canLay0 = true := by
    unfold SeqAt.shaped at o2
    exact (Bool.and_eq_true_iff.mp o2).1
  have nd : d.hasDict = false := PyData.hasDict_of_canLay d lay
  obtain ⟨as, rd⟩ := Dp.reads I d x u dp r1
  have big : ∀ a, u = .ref a → wpAny (model X.prog X.w) X.A (call (.builtin "repr") [u]) (EP X pins σ Q) X.xe s := by
    rintro a rfl
    exact repr_of_reads' rd o1 (PyData.noDict_hsm nd) hg (by omega) (fun _ _ e => e) (fun h' u tk hk => ⟨.str d.shown, H, I.kept hk, ⟨_, rfl⟩, q⟩) o3
  cases dp with
  | non =>
    cases r1
    exact P.repr_of_none ⟨.str _, H, I.tok _, ⟨_, rfl⟩, q⟩
  | bl b =>
    cases r1
    exact P.repr_of_bool ⟨.str _, H, I.tok _, ⟨_, rfl⟩, q⟩
  | int i =>
    obtain ⟨t, rfl⟩ := r1
    exact P.repr_of_int (of_decide_eq_true (by simpa [PyData.showable] using o1)) ⟨.str _, H, I.tok _, ⟨_, rfl⟩, q⟩
  | str z =>
    obtain ⟨t, rfl⟩ := r1
    exact P.repr_of_str ⟨.str _, H, I.tok _, ⟨_, rfl⟩, q⟩ (by simpa [PyData.shown] using o3)
  | lst e t => exact big _ r1
  | tup e t => exact big _ r1
end
end DL
set_option Elab.async false
set_option linter.all false
set_option maxRecDepth 100000
set_option maxHeartbeats 2000000
set_option autoImplicit false
namespace DL
open PySem PySem.Spec L2
open PyProof.Rows hiding St

section
variable {K : PySem.W.Frag} {X : Cx} {WE : EW}
theorem WRs.one {L : Addr → Prop} {H : Hp} {vs : List V} {a : PyData} (w : WRs K L H vs [a]) : ∃ v, vs = [v] ∧ WR K L H v a := by
  cases w with
  | cons x y => cases y; exact ⟨_, rfl, x⟩
theorem pc_repr : PureC K (fun xs H Q => ∃ x d, xs = [x] ∧ Dp K H x d ∧ okR d = true ∧ Q (.str d.shown) H) reprP := by
  intro L H vs xs z Q hL w0 e k
  unfold reprP at e
  split at e
  · obtain ⟨v, rfl, w⟩ := w0.one
    split at e
    · rename_i ok
      cases e
      exact ⟨v, _, rfl, w.dp, ok, k _ H Grow.refl (.str _)⟩
    · cases e
  · cases e
/-! methods of built-in types -/
def tykP (T : String) : PyData → Bool
  | .str _ => T == "str"
  | .list _ => T == "list"
  | .int _ => T == "int"
  | _ => false
theorem tyk_of {T : String} {L : Addr → Prop} {H : Hp} {v : V} {d : PyData} (w : WW K L H v d) (h : tykP T d = true) : tyV K T v H := by
  cases d with
  | str x => cases w; exact beq_iff_eq.mp h
  | int i => cases w; exact beq_iff_eq.mp h
  | list ds => obtain ⟨a, xs, rfl, e, t⟩ := w; exact .inl ⟨beq_iff_eq.mp h, xs, e⟩
  | _ => cases h
def PureM (K : PySem.W.Frag) (r : V → List V → Hp → VK → Prop) (g : PyData → List PyData → Option PyData) : Prop :=
  ∀ (L : Addr → Prop) (H : Hp) (x : V) (vs : List V) (a : PyData) (xs : List PyData) (z : PyData) (Q : VK), (∀ p, L p → ∃ o, H p = some o) → WW K L H x a → WWs K L H vs xs → g a xs = some z → (∀ v H', Grow H H' → TR K L H' v z → Q v H') → r x vs H Q
def dM (T : String) (g : PyData → List PyData → Option PyData) (mo : DS → M D) (ms : DS → M (List D)) : DS → M D := fun S => bd (mo S) fun o => bd (rdw o) fun x0 => if tykP T x0 then bd (ms S) fun ds => bd (rdw o) fun x => bd (rdws ds) fun xs => bd (opt (g x xs)) fun z => ret (.t z) else fail
theorem m_imp {T : String} {r : V → List V → Hp → VK → Prop} {g : PyData → List PyData → Option PyData} {mo : DS → M D} {ms : DS → M (List D)} (hg : PureM K r g) (s : St) (H : Hp) (Q : VK) : tD K WE (dM T g mo ms) s H Q → tBM K T r (tD K WE mo) (tDA K WE ms) s H Q := by
  rintro ⟨r0, S, h, R, p⟩
  refine ⟨r0, S, h, R, p.bd.mono fun o r1 h1 H1 R1 E1 q v dv => ?_⟩
  obtain ⟨x0, a1, a2⟩ := rdw_ok R1 dv q.bd
  split at a2
  · rename_i hk
    refine ⟨tyk_of a1 hk, r1, S, h1, R1, a2.bd.mono fun ds r2 h2 H2 R2 E2 q2 vs dvs => ?_⟩
    obtain ⟨x, x1, x2⟩ := rdw_ok R2 (dv.ext E2) q2.bd
    obtain ⟨xs, y1, y2⟩ := rdws_ok R2 dvs x2.bd
    obtain ⟨z, z1, z2⟩ := y2.bd.opt R2
    exact hg (Lv r2 h2) H2 v vs x xs z Q (fun p l => R2.lv l) x1 y1 z1 fun u H' gr t => z2 r2 H' (R2.grow gr) (.grow gr) u t
  · exact False.elim a2
theorem m0_imp {T : String} {r : V → List V → Hp → VK → Prop} {g : PyData → List PyData → Option PyData} {mo : DS → M D} (hg : PureM K r g) (s : St) (H : Hp) (Q : VK) : tD K WE (dM T g mo aNil) s H Q → tBM0 K T r (tD K WE mo) s H Q := by
  rintro ⟨r0, S, h, R, p⟩
  refine ⟨r0, S, h, R, p.bd.mono fun o r1 h1 H1 R1 E1 q v dv => ?_⟩
  obtain ⟨x0, a1, a2⟩ := rdw_ok R1 dv q.bd
  split at a2
  · rename_i hk
    refine ⟨tyk_of a1 hk, ?_⟩
    have a3 := a2.bd.ret R1
    obtain ⟨x, x1, x2⟩ := rdw_ok R1 dv a3.bd
    obtain ⟨xs, y1, y2⟩ := rdws_ok R1 .nil x2.bd
    obtain ⟨z, z1, z2⟩ := y2.bd.opt R1
    exact hg (Lv r1 h1) H1 v [] x xs z Q (fun p l => R1.lv l) x1 y1 z1 fun u H' gr t => z2 r1 H' (R1.grow gr) (.grow gr) u t
  · exact False.elim a2
section
variable {o e : Expr} {es : List Expr} {mo : DS → M D} {ms : DS → M (List D)} {name : Str} {apos cpos : Pos} {T id : String} {r : V → List V → Hp → VK → Prop} {g : PyData → List PyData → Option PyData}
theorem de_bm0 (pa : PlainAttrs T) (slot : Slot T name id) (hty : typeOf (.builtin id) = pure (.type "method_descriptor")) (hm : MtR X id r) (hg : PureM X.K r g) (ho : DE X WE o mo) (hbase : attributeBase o name X.env (eval o X.env) = eval o X.env := by rfl) (hline : (apos.endLine == cpos.line) = true := by rfl) : DE X WE (.Call (.Attribute o name apos) [] [] cpos) (dM T g mo aNil) :=
  PE.imp (pe_bm0 pa slot hty hm ho hbase hline) (m0_imp hg)
theorem de_bm (pa : PlainAttrs T) (slot : Slot T name id) (hty : typeOf (.builtin id) = pure (.type "method_descriptor")) (hm : MtR X id r) (hg : PureM X.K r g) (ho : DE X WE o mo) (ha : DA X WE (e :: es) ms)
    (hbase : attributeBase o name X.env (eval o X.env) = eval o X.env := by rfl)
    (hfew : ((backTo cpos (starEach (e :: es) X.env)).all (fun x => !x.1) && (backToKw cpos (keywordEach [] X.env)).all (fun x => x.1.isSome) && decide ((e :: es).length + ([] : List Keyword).length + (if ([] : List Keyword).isEmpty then 0 else 1) < 30)) = true := by rfl)
    (hline : (apos.endLine == cpos.line) = true := by rfl) (hs : starEach (e :: es) X.env = (false, eval e X.env) :: starEach es X.env := by rfl) (hplain : (backTo cpos (starEach es X.env)).any (·.1) = false := by rfl) :
    DE X WE (.Call (.Attribute o name apos) (e :: es) [] cpos) (dM T g mo ms) :=
  PE.imp (pe_bm pa slot hty hm ho ha hbase hfew hline hs hplain) (m_imp hg)
/-- xs.append(e) -/
def dApp (mo me : DS → M D) : DS → M D := fun S => bd (mo S) fun o => match o with
  | .c n => bd (getC n) fun _ => bd (me S) fun v => bd (fz v) fun z => bd (getC n) fun ds => if ds.length < sizeLine then bd (setC n (ds ++ [z])) fun _ => ret (.t .none) else fail
  | _ => fail
theorem app_imp {mo me : DS → M D} (s : St) (H : Hp) (Q : VK) : tD K WE (dApp mo me) s H Q → tBM K "list" rAppend (tD K WE mo) (tCons (tD K WE me) tNil) s H Q := by
  rintro ⟨r0, S, h, R, p⟩
  refine ⟨r0, S, h, R, p.bd.mono fun o r1 h1 H1 R1 E1 q v dv => ?_⟩
  cases o with
  | c n =>
    have q1 := q.bd
    obtain ⟨a, qa, rfl⟩ := dv
    unfold getC at q1
    cases ec : h1[n]? with
    | none => simp only [ec] at q1; exact False.elim q1
    | some cc =>
      cases cc with
      | gone d => simp only [ec] at q1; exact False.elim q1
      | lst ds0 =>
        simp only [ec] at q1
        obtain ⟨xs0, x1, x2⟩ := R1.cell n _ a ec qa
        refine ⟨.inl ⟨rfl, xs0, SqL.of x1⟩, r1, S, h1, R1, (q1 r1 H1 R1 .refl).bd.mono fun y r2 h2 H2 R2 E2 q2 w dw => ?_⟩
        obtain ⟨z, h3, R3, E3, z1, z2⟩ := fz_ok R2 dw q2.bd
        have z3 := z2.bd
        unfold getC at z3
        have qa2 : r2[n]? = some a := by
          obtain ⟨l, pl⟩ := E2.pre
          rw [pl, List.getElem?_append_left (List.getElem?_eq_some_iff.mp qa).1]
          exact qa
        cases ec2 : h3[n]? with
        | none => simp only [ec2] at z3; exact False.elim z3
        | some cc =>
          cases cc with
          | gone d => simp only [ec2] at z3; exact False.elim z3
          | lst ds =>
            simp only [ec2] at z3
            have z4 := z3 r2 H2 R3 .refl
            simp only [] at z4
            obtain ⟨xs, y1, y2⟩ := R3.cell n _ a ec2 qa2
            split at z4
            · rename_i hl
              obtain ⟨R4, E4⟩ := R3.wr ec2 qa2 (y2.append (.cons z1 .nil))
              refine ⟨a, xs, w, rfl, rfl, y1, by rw [y2.length]; exact hl, ?_⟩
              exact ((z4.bd r2 _ R4 E4).ret R4) _ .non
            · exact False.elim z4
  | _ => exact False.elim q
theorem de_app {ms : DS → M D} (ho : DE X WE o mo) (he : DE X WE e ms) (hbase : attributeBase o "append" X.env (eval o X.env) = eval o X.env := by rfl)
    (hfew : ((backTo cpos (starEach [e] X.env)).all (fun x => !x.1) && (backToKw cpos (keywordEach [] X.env)).all (fun x => x.1.isSome) && decide ([e].length + ([] : List Keyword).length + (if ([] : List Keyword).isEmpty then 0 else 1) < 30)) = true := by rfl)
    (hline : (apos.endLine == cpos.line) = true := by rfl) (hs : starEach [e] X.env = (false, eval e X.env) :: starEach [] X.env := by rfl) (hplain : (backTo cpos (starEach [] X.env)).any (·.1) = false := by rfl) :
    DE X WE (.Call (.Attribute o "append" apos) [e] [] cpos) (dApp mo ms) :=
  PE.imp (pe_bm PySem.F.plainAttrs_list PySem.F.slot_list_append PySem.F.type_list_append mt_append ho (pa_cons he pa_nil hs) hbase hfew hline hs hplain) app_imp
end
/-! texts -/
def strsP : List PyData → Option (List Str)
  | [] => some []
  | .str x :: ds => (strsP ds).map (x :: ·)
  | _ => none
theorem strsP_of : ∀ {ds : List PyData} {ns : List Str}, strsP ds = some ns → ds = ns.map .str
  | [], ns, e => by cases e; rfl
  | d :: ds, ns, e => by
    cases d with
    | str i =>
      simp only [strsP] at e
      cases q : strsP ds with
      | none => rw [q] at e; cases e
      | some ms => rw [q] at e; cases e; rw [strsP_of q]; rfl
    | _ => cases e
theorem strsP_map (ns : List Str) : strsP (ns.map .str) = some ns := by
  induction ns with
  | nil => rfl
  | cons n ns ih => simp [strsP, ih]
theorem trs_strs_inv {L : Addr → Prop} {H : Hp} : ∀ {ns : List Str} {vs : List V}, TRs K L H vs (ns.map PyData.str) → vs = ns.map V.str
  | [], _, h => by cases h; rfl
  | n :: ns, _, h => by
    cases h with
    | cons a b => cases a; rw [trs_strs_inv b]; rfl
theorem trs_strs {L : Addr → Prop} {H : Hp} : ∀ ns : List Str, TRs K L H (ns.map V.str) (ns.map PyData.str)
  | [] => .nil
  | n :: ns => .cons (.str n) (trs_strs ns)
def joinG (x : Str) (ds : List PyData) : Option PyData := (strsP ds).bind fun ys => if (ys.map (·.length)).sum + ys.length * x.length ≤ 16777216 then some (.str (Txt.join x ys)) else none
def joinP : PyData → List PyData → Option PyData
  | .str x, [.list ds] => joinG x ds
  | .str x, [.tuple ds] => joinG x ds
  | _, _ => none
theorem pm_join : PureM K (fun x xs H Q => ∃ a p, ∃ ys : List Str, x = .str a ∧ xs = [.ref p] ∧ (SqL K H p (ys.map V.str) ∨ SqT K H p (ys.map V.str)) ∧ (ys.map (·.length)).sum + ys.length * a.length ≤ 16777216 ∧ Q (.str (Txt.join a ys)) H) joinP := by
  intro L H x vs a xs z Q hL wa w0 e k
  unfold joinP at e
  split at e
  · rename_i x ds
    obtain ⟨v, rfl, w⟩ := w0.one
    obtain ⟨p, ys, rfl, e1, t1⟩ := w
    cases wa
    unfold joinG at e
    cases q : strsP ds with
    | none => rw [q] at e; cases e
    | some ss =>
      rw [q] at e
      simp only [Option.bind] at e
      split at e
      · rename_i hl
        cases e
        rw [strsP_of q] at t1
        have := trs_strs_inv t1
        subst this
        exact ⟨_, p, ss, rfl, rfl, .inl e1, hl, k _ H Grow.refl (.str _)⟩
      · cases e
  · rename_i x ds
    obtain ⟨v, rfl, w⟩ := w0.one
    cases w with
    | @tup p ys _ e1 n1 t1 =>
      cases wa
      unfold joinG at e
      cases q : strsP ds with
      | none => rw [q] at e; cases e
      | some ss =>
        rw [q] at e
        simp only [Option.bind] at e
        split at e
        · rename_i hl
          cases e
          rw [strsP_of q] at t1
          have := trs_strs_inv t1
          subst this
          exact ⟨_, p, ss, rfl, rfl, .inr (SqT.of e1), hl, k _ H Grow.refl (.str _)⟩
        · cases e
  · cases e
/-- text methods without arguments -/
def m0P (C : Str → Bool) (g : Str → PyData) : PyData → List PyData → Option PyData
  | .str x, [] => if C x then some (g x) else none
  | _, _ => none
theorem pm_s0 {C : Str → Bool} {Cp : Str → Prop} {g : Str → PyData} {gv : Str → V} (hC : ∀ x, C x = true → Cp x) (hg : ∀ x L H, TR K L H (gv x) (g x)) : PureM K (fun x xs H Q => ∃ a, x = .str a ∧ xs = [] ∧ Cp a ∧ Q (gv a) H) (m0P C g) := by
  intro L H x vs a xs z Q hL wa w0 e k
  unfold m0P at e
  split at e
  · cases wa; cases w0
    split at e
    · rename_i hl
      cases e
      exact ⟨_, rfl, rfl, hC _ hl, k _ H Grow.refl (hg _ _ _)⟩
    · cases e
  · cases e
def fewS (x : Str) : Bool := decide (x.length ≤ 5592405)
theorem fewS_of (x : Str) (h : fewS x = true) : x.length ≤ 5592405 := of_decide_eq_true h
def anyS (_ : Str) : Bool := true
def upP := m0P fewS fun x => .str (Txt.upper x)
def lowP := m0P fewS fun x => .str (Txt.lower x)
def alphaP := m0P anyS fun x => .bool (Txt.isalpha x)
def islowP := m0P anyS fun x => .bool (Txt.islower x)
theorem pm_up : PureM K (fun x xs H Q => ∃ a, x = .str a ∧ xs = [] ∧ a.length ≤ 5592405 ∧ Q (.str (Txt.upper a)) H) upP := pm_s0 fewS_of fun _ _ _ => .str _
theorem pm_low : PureM K (fun x xs H Q => ∃ a, x = .str a ∧ xs = [] ∧ a.length ≤ 5592405 ∧ Q (.str (Txt.lower a)) H) lowP := pm_s0 fewS_of fun _ _ _ => .str _
theorem pm_alpha : PureM K (fun x xs H Q => ∃ a, x = .str a ∧ xs = [] ∧ True ∧ Q (.bl (Txt.isalpha a)) H) alphaP := pm_s0 (fun _ _ => trivial) fun _ _ _ => .bl _
theorem pm_islow : PureM K (fun x xs H Q => ∃ a, x = .str a ∧ xs = [] ∧ True ∧ Q (.bl (Txt.islower a)) H) islowP := pm_s0 (fun _ _ => trivial) fun _ _ _ => .bl _
def starts3P : PyData → List PyData → Option PyData
  | .str x, [.str y, .int i] => some (.bool (Txt.startswith3 x y i))
  | _, _ => none
theorem pm_starts3 : PureM K (fun x xs H Q => ∃ (a b : Str) (i : Int), x = .str a ∧ xs = [.str b, .int i] ∧ Q (.bl (Txt.startswith3 a b i)) H) starts3P := by
  intro L H x vs a xs z Q hL wa w0 e k
  unfold starts3P at e
  split at e
  · obtain ⟨v, u, rfl, w1, w2⟩ := w0.two
    cases wa; cases w1; cases w2; cases e
    exact ⟨_, _, _, rfl, rfl, k _ H Grow.refl (.bl _)⟩
  · cases e
/-- ord of a sign -/
def ordP : List PyData → Option PyData
  | [.str x] => match x.cps.toList with
    | [c] => some (.int c)
    | _ => none
  | _ => none
end
end DL
set_option Elab.async false
set_option linter.all false
set_option maxRecDepth 100000
set_option maxHeartbeats 2000000
set_option autoImplicit false
namespace DL
open PySem PySem.Spec L2
open PyProof.Rows hiding St

/-- what the top has left -/
structure Tx (K : PySem.W.Frag) (mg : Str → Option Value) (fn : List He.DefD) (fa : List He.Fa) (fdf : Nat → FuncData) : Prop where
  d : ∀ (i : Nat) (d : He.DefD), fn[i]? = some d → FunD K d.name d.qual d.params d.body d.scope (d.dvs K) (d.kws K) (He.fAd K d.at_) (fdf i)
  g : ∀ (i : Nat) (x : Str), fa[i]? = some (.glo x) → mg x = some (.ref (He.ga K x))
  f : ∀ (i : Nat) (x : Str), fa[i]? = some (.free x) → mg x = none
  n : ∀ (i : Nat) (x : Str) (z : Int), fa[i]? = some (.int x z) → ∃ t, mg x = some (.int z t)
  s : ∀ (i : Nat) (x z : Str), fa[i]? = some (.str x z) → ∃ t, mg x = some (.str z t)
theorem Tx.of {K : PySem.W.Frag} {mg : Str → Option Value} {fn : List He.DefD} {fa : List He.Fa} {h : Heap} (X : K.In h) (G : h.Ns mainGlobals mg) (c : He.SaysD fa fn K) (d0 : FuncData) : ∃ fdf, Tx K mg fn fa fdf := by
  have all : ∀ i : Nat, ∃ fd, ∀ d : He.DefD, fn[i]? = some d → FunD K d.name d.qual d.params d.body d.scope (d.dvs K) (d.kws K) (He.fAd K d.at_) fd := by
    intro i
    cases e : fn[i]? with
    | none => exact ⟨d0, fun d q => by cases q⟩
    | some d =>
      obtain ⟨fd, F⟩ := c.def_ i e
      exact ⟨fd, fun d' q => by cases q; exact F⟩
  exact ⟨fun i => Classical.choose (all i), fun i d q => Classical.choose_spec (all i) d q, fun i x q => He.glo_ok X G (c.fact i q), fun i x q => He.free_ok X G (c.fact i q), fun i x z q => He.int_ok X G (c.fact i q), fun i x z q => He.str_ok X G (c.fact i q)⟩
/-- the fuel of a while loop -/
def fu : Nat := 1099511627776
section
variable {X : Cx} {WE : EW} {K : PySem.W.Frag}
theorem takesF : Takes X (wx X.K WEF) := fun u s' ⟨a, B, sI, pins, σ, H, cls, d, e1, e2, e3, e4, e5, e6, e7, e8, c, p, r, h, S, e9, e10, e11⟩ => e11.elim
theorem dv (i : Nat) {x : Str} {pos : Pos} (hN : X.N[i]? = some x := by rfl) (hv : Vis X.env.scope x := by first | exact Or.inl rfl | exact Or.inr (Or.inl rfl) | exact Or.inr (Or.inr rfl)) (hd : (x == ("__debug__" : Str)) = false := by decide) (hcd : (x == ("__classdict__" : Str)) = false := by decide) : DE X WE (.Name x pos) (eVar i) := de_var hN hv hd hcd
theorem dset (i : Nat) {x : Str} {e : Expr} {m : DS → M D} {pos pos' : Pos} (hN : X.N.Nodup) (he : DE X WE e m) (hi : X.N[i]? = some x := by rfl) (hx : Loc X.env.scope x := by first | exact Or.inl rfl | exact Or.inr rfl) (hs : swapsWith e (some (.Name x pos')) pos.line X.env = pure false := by rfl) (hf : X.fn x = true ∨ X.env.scope.names.lookup x = some .local := by first | exact .inl rfl | exact .inr rfl) : DSt X WE (.Assign [.Name x pos'] e pos) (sSet i m) := ds_set hN hi hx he hs hf
theorem dgn (i : Nat) {x : Str} {pos : Pos} (hN : X.N.Nodup) (hi : X.N[i]? = some x := by rfl) (hx : Loc X.env.scope x := by first | exact Or.inl rfl | exact Or.inr rfl) (hf : X.fn x = true ∨ X.env.scope.names.lookup x = some .local := by first | exact .inl rfl | exact .inr rfl) : DG X (.Name x pos) (gN i) [i] := dg_name hN hi hx hf
theorem hu70 {k : Nat} {A : Around} (r : Room k A) : A.units + 70 < cLine := by have := r.un; omega
end
section
variable {X : Cx} {WE : EW}
/-- list(range(..)) -/
theorem trs_rg {K : PySem.W.Frag} {L : Addr → Prop} {H : Hp} (a b : Int) : TRs K L H (rgV a b) (rngD a (b - a).toNat) := by
  unfold rgV rngD
  have key : ∀ l : List Nat, TRs K L H (l.map fun (i : Nat) => V.int (a + (i : Nat))) (l.map fun (i : Nat) => PyData.int (a + (i : Int))) := by
    intro l
    induction l with
    | nil => exact .nil
    | cons x l ih => exact .cons (.int _) ih
  exact key _
def rgOk (a b : Int) : Bool := inR a && (inR b && decide ((b - a).toNat ≤ 2 ^ 24))
theorem rgOk_of {a b : Int} (h : rgOk a b = true) : RgOk a b := by
  unfold rgOk at h
  rw [Bool.and_eq_true, Bool.and_eq_true] at h
  have h1 := of_decide_eq_true h.1
  have h2 := of_decide_eq_true h.2.1
  exact ⟨h1.1, h1.2, h2.1, h2.2, of_decide_eq_true h.2.2⟩
def dRg1 (c : Bool) (m : DS → M D) : DS → M D := fun S => bd (m S) fun d => match d with
  | .t (.int j) => if rgOk 0 j then mk c (rngD 0 (j - 0).toNat) else fail
  | _ => fail
def dRg2 (c : Bool) (ma mb : DS → M D) : DS → M D := fun S => bd (ma S) fun a => bd (mb S) fun b => match a, b with
  | .t (.int i), .t (.int j) => if rgOk i j then mk c (rngD i (j - i).toNat) else fail
  | _, _ => fail
theorem de_rg1 (c : Bool) {e : Expr} {m : DS → M D} {p p2 pos pos2 : Pos} (gl : Gl X "list") (hl : X.mg "list" = none) (gr : Gl X "range") (hr : X.mg "range" = none) (he : DE X WE e m) (n1 : starEach [e] X.env = (false, eval e X.env) :: starEach [] X.env := by rfl)
    (n2 : starEach [Expr.Call (.Name "range" p2) [e] [] pos2] X.env = (false, eval (Expr.Call (.Name "range" p2) [e] [] pos2) X.env) :: starEach [] X.env := by rfl) (hc : X.calm = true := by rfl) : DE X WE (.Call (.Name "list" p) [.Call (.Name "range" p2) [e] [] pos2] [] pos) (dRg1 c m) :=
  PE.imp (pe_listRg hc gl hl (prg_1 gr hr he n1) n2) fun s H Q ⟨r0, S, h, R, p⟩ => ⟨r0, S, h, R, p.bd.mono fun d r1 h1 H1 R1 E1 q v dv => by
    cases d with
    | t d =>
      cases d with
      | int j =>
        cases dv
        simp only [] at q
        split at q
        · rename_i ok
          refine ⟨j, rfl, rgOk_of ok, fun a na => ?_⟩
          obtain ⟨d, r', h', R', E', d1, g1⟩ := mk_ok R1 (trs_rg 0 j) na q
          exact g1 _ d1
        · exact False.elim q
      | _ => exact False.elim q
    | _ => exact False.elim q⟩
end
theorem v_len : bootBuiltins "len" = some (.builtin "len") := by decide +kernel
theorem v_abs : bootBuiltins "abs" = some (.builtin "abs") := by decide +kernel
theorem v_max : bootBuiltins "max" = some (.builtin "max") := by decide +kernel
theorem v_min : bootBuiltins "min" = some (.builtin "min") := by decide +kernel
theorem v_sum : bootBuiltins "sum" = some (.builtin "sum") := by decide +kernel
theorem v_all : bootBuiltins "all" = some (.builtin "all") := by decide +kernel
theorem v_any : bootBuiltins "any" = some (.builtin "any") := by decide +kernel
theorem v_repr : bootBuiltins "repr" = some (.builtin "repr") := by decide +kernel
theorem v_sorted : bootBuiltins "sorted" = some (.builtin "sorted") := by decide +kernel
theorem v_int : bootBuiltins "int" = some (.type "int") := by decide +kernel
theorem v_bool : bootBuiltins "bool" = some (.type "bool") := by decide +kernel
theorem v_str : bootBuiltins "str" = some (.type "str") := by decide +kernel
theorem v_list : bootBuiltins "list" = some (.type "list") := by decide +kernel
theorem v_tuple : bootBuiltins "tuple" = some (.type "tuple") := by decide +kernel
theorem v_dict : bootBuiltins "dict" = some (.type "dict") := by decide +kernel
theorem v_range : bootBuiltins "range" = some (.type "range") := by decide +kernel
end DL
set_option Elab.async false
set_option linter.all false
set_option maxRecDepth 100000
set_option maxHeartbeats 2000000
set_option autoImplicit false
namespace DL
open PySem PySem.Spec L2
open PyProof.Rows hiding St

section
variable {X : Cx} {WE : EW} {K : PySem.W.Frag}
theorem PI.or {tg e : Expr} {w1 w2 : TI} (a : PI X tg e w1) (b : PI X tg e w2) : PI X tg e (fun s H R => w1 s H R ∨ w2 s H R) := ⟨fun p s σ H R I h => by
  rcases h with h | h
  · exact a.run p s σ H R I h
  · exact b.run p s σ H R I h⟩
theorem itr_str {x : Str} : ItR K (signsP x) (Its x) (fun _ _ _ => True) where
  keep := fun _ _ _ _ _ _ _ _ => trivial
  go := fun r h H i _ l => by show i < x.cps.size; simpa [signsP] using l
  stop := fun r h H i _ l => by show x.cps.size ≤ i; simpa [signsP] using l
  yld := fun r S h s H i d z H' _ R q y => by
    obtain ⟨rfl, c, e, rfl⟩ := y
    unfold signsP at q
    rw [List.getElem?_map, Array.getElem?_toList, e] at q
    cases q
    exact ⟨Grow.refl, .str _⟩
theorem itr_sc {a : Addr} {ns : List Int} : ItR K (ns.map .int) (Itl K a) (fun r h H => ScR K (Lv r h) H a ns) where
  keep := fun r h H r' h' H' q E => q.mono E.keep
  go := fun r h H i q l => ⟨ns.map V.int, (ns.map V.int)[i]'(by simpa using l), q.sql, List.getElem?_eq_getElem _⟩
  stop := fun r h H i q l => ⟨ns.map V.int, q.sql, by simpa using l⟩
  yld := fun r S h s H i d x H' v R q y => by
    obtain ⟨rfl, y2⟩ := y
    have := y2 _ v.sql
    rw [List.getElem?_map] at this q
    cases e : ns[i]? with
    | none => rw [e] at q; cases q
    | some n =>
      rw [e] at this q
      cases q; cases this
      exact ⟨Grow.refl, .int _⟩
/-- a list, a tuple, a text, the script -/
def iAny (m : DS → M D) : DS → M (List PyData) := fun S => bd (m S) fun d => match d with
  | .t (.list ds) => ret ds
  | .t (.tuple ds) => ret ds
  | .t (.str x) => ret (signsP x)
  | .s ns => ret (ns.map .int)
  | _ => fail
theorem di_any {tg l : Expr} {m : DS → M D} (hl : DE X WE l m) : DI X WE tg l (iAny m) :=
  PI.imp (PI.or (pi_list hl) (PI.or (pi_tup hl) (pi_str hl))) fun s H Q ⟨r, S, h, R, p⟩ => by
    have p1 := p.bd
    -- the kind of what is walked is known ahead
    cases e : m S h with
    | none => rw [e] at p1; exact False.elim p1
    | some y =>
      cases y with
      | err c q h' =>
        exact .inl ⟨r, S, h, R, by rw [e] at p1 ⊢; exact p1⟩
      | ok d h' =>
        rw [e] at p1
        cases d with
        | t d =>
          cases d with
          | list ds =>
            refine .inl ⟨r, S, h, R, ?_⟩
            rw [e]
            intro r1 H1 R1 E1 v dv
            cases dv with
            | lst e n t => exact ⟨_, rfl, ⟨_, SqL.of e⟩, (p1 r1 H1 R1 E1) r1 H1 R1 .refl _ _ H1 Grow.refl ⟨e, n, t⟩ itr_list⟩
          | tuple ds =>
            refine .inr (.inl ⟨r, S, h, R, ?_⟩)
            rw [e]
            intro r1 H1 R1 E1 v dv
            cases dv with
            | tup e n t => exact ⟨_, rfl, ⟨_, SqT.of e⟩, (p1 r1 H1 R1 E1) r1 H1 R1 .refl _ _ H1 Grow.refl ⟨e, n, t⟩ itr_tup⟩
          | str x =>
            refine .inr (.inr ⟨r, S, h, R, ?_⟩)
            rw [e]
            intro r1 H1 R1 E1 v dv
            cases dv
            exact ⟨_, rfl, (p1 r1 H1 R1 E1) r1 H1 R1 .refl _ _ H1 Grow.refl trivial itr_str⟩
          | none => exact .inl ⟨r, S, h, R, by rw [e]; exact fun r1 H1 R1 E1 => (p1 r1 H1 R1 E1).elim⟩
          | bool b => exact .inl ⟨r, S, h, R, by rw [e]; exact fun r1 H1 R1 E1 => (p1 r1 H1 R1 E1).elim⟩
          | int i => exact .inl ⟨r, S, h, R, by rw [e]; exact fun r1 H1 R1 E1 => (p1 r1 H1 R1 E1).elim⟩
          | dict kvs => exact .inl ⟨r, S, h, R, by rw [e]; exact fun r1 H1 R1 E1 => (p1 r1 H1 R1 E1).elim⟩
        | c n => exact .inl ⟨r, S, h, R, by rw [e]; exact fun r1 H1 R1 E1 => (p1 r1 H1 R1 E1).elim⟩
        | k u => exact .inl ⟨r, S, h, R, by rw [e]; exact fun r1 H1 R1 E1 => (p1 r1 H1 R1 E1).elim⟩
        | s ns =>
          refine .inl ⟨r, S, h, R, ?_⟩
          rw [e]
          intro r1 H1 R1 E1 v dv
          obtain ⟨a, rfl, q⟩ := dv
          exact ⟨a, rfl, ⟨_, q.sql⟩, (p1 r1 H1 R1 E1) r1 H1 R1 .refl _ _ H1 Grow.refl q itr_sc⟩
/-- enumerate(list) -/
def enumD (ds : List PyData) : List PyData := (List.range ds.length).zipWith (fun (i : Nat) d => .tuple [.int (i : Int), d]) ds
theorem itr_enum {a : Addr} {xs : List V} {ds : List PyData} : ItR K (enumD ds) (Ite K a) (fun r h H => H a = some (.lst xs) ∧ ¬ Lv r h a ∧ TRs K (Lv r h) H xs ds) where
  keep := fun r h H r' h' H' ⟨e, n, t⟩ E => ⟨(E.keep _ _ e n).1, (E.keep _ _ e n).2, TRs.mono E.keep _ _ t⟩
  go := fun r h H i ⟨e, n, t⟩ l => by
    have l2 : i < ds.length := by simpa [enumD] using l
    exact ⟨xs, xs[i]'(by rw [t.length]; exact l2), SqL.of e, List.getElem?_eq_getElem _⟩
  stop := fun r h H i ⟨e, n, t⟩ l => ⟨xs, SqL.of e, by rw [t.length]; simpa [enumD] using l⟩
  yld := fun r S h s H i d x H' ⟨e, n, t⟩ R q y => by
    obtain ⟨T, z, rfl, nT, rfl, y2⟩ := y
    have hx := y2 xs (SqL.of e)
    obtain ⟨d0, e0, t0⟩ := t.getV hx
    have hi : i < ds.length := (List.getElem?_eq_some_iff.mp e0).1
    unfold enumD at q
    rw [List.getElem?_zipWith, List.getElem?_range hi, e0] at q
    cases q
    have g : Grow H (upd H T (.tup [.int (i : Nat), z])) := Grow.upd nT
    exact ⟨g, .tup upd_same (R.fresh nT) (.cons (.int _) (.cons (TR.mono (fun a o e n => ⟨g a o e, n⟩) _ _ t0) .nil))⟩
def iEnu (m : DS → M D) : DS → M (List PyData) := fun S => bd (m S) fun d => match d with
  | .t (.list ds) => ret (enumD ds)
  | _ => fail
theorem di_enum {e : Expr} {m : DS → M D} {p pos tpos : Pos} {elts : List Expr} {kk : Nat} (hg : Gl X "enumerate") (hm : X.mg "enumerate" = none) (ha : DE X WE e m) (n1 : starEach [e] X.env = (false, eval e X.env) :: starEach [] X.env := by rfl) (hs : starEach [e] X.env = [(false, eval e X.env)] := by rfl) : DI X WE (.Tuple elts kk tpos) (.Call (.Name "enumerate" p) [e] [] pos) (iEnu m) :=
  PI.imp (pi_enum hg hm (pa_cons ha pa_nil n1) hs) fun s H Q ⟨r, S, h, R, p⟩ => ⟨r, S, h, R, p.bd.mono fun d r1 h1 H1 R1 E1 q v dv => by
    cases d with
    | t d =>
      cases d with
      | list ds =>
        cases dv with
        | lst e n t => exact ⟨_, _, rfl, SqL.of e, q r1 H1 R1 .refl _ _ H1 Grow.refl ⟨e, n, t⟩ itr_enum⟩
      | _ => exact False.elim q
    | _ => exact False.elim q⟩
end
end DL
set_option Elab.async false
set_option linter.all false
set_option maxRecDepth 100000
set_option maxHeartbeats 2000000
set_option autoImplicit false
namespace DL
open PySem PySem.Spec L2
open PyProof.Rows hiding St

section
variable {X : Cx} {WE : EW} {K : PySem.W.Frag}
/-! zip of two lists, of two tuples -/
def zipD (ds es : List PyData) : List PyData := List.zipWith (fun d e => .tuple [d, e]) ds es
theorem itr_zip {a b : Addr} {xs ys : List V} {ds es : List PyData} : ItR K (zipD ds es) (Itz K a b) (fun r h H => (H a = some (.lst xs) ∧ ¬ Lv r h a ∧ TRs K (Lv r h) H xs ds) ∧ H b = some (.lst ys) ∧ ¬ Lv r h b ∧ TRs K (Lv r h) H ys es) where
  keep := fun r h H r' h' H' ⟨⟨e, n, t⟩, e2, n2, t2⟩ E => ⟨⟨(E.keep _ _ e n).1, (E.keep _ _ e n).2, TRs.mono E.keep _ _ t⟩, (E.keep _ _ e2 n2).1, (E.keep _ _ e2 n2).2, TRs.mono E.keep _ _ t2⟩
  go := fun r h H i ⟨⟨e, n, t⟩, e2, n2, t2⟩ l => by
    have l2 : i < min ds.length es.length := by simpa [zipD] using l
    have h1 := t.length
    have h2 := t2.length
    exact ⟨xs, ys, xs[i]'(by omega), ys[i]'(by omega), SqL.of e, SqL.of e2, List.getElem?_eq_getElem _, List.getElem?_eq_getElem _⟩
  stop := fun r h H i ⟨⟨e, n, t⟩, e2, n2, t2⟩ l => by
    have l2 : min ds.length es.length ≤ i := by simpa [zipD] using l
    have h1 := t.length
    have h2 := t2.length
    exact ⟨xs, ys, SqL.of e, SqL.of e2, by omega⟩
  yld := fun r S h s H i d x H' ⟨⟨e, n, t⟩, e2, n2, t2⟩ R q y => by
    obtain ⟨T, z, u, rfl, nT, rfl, y1, y2⟩ := y
    obtain ⟨d0, f0, t0⟩ := t.getV (y1 xs (SqL.of e))
    obtain ⟨d1, f1, t1⟩ := t2.getV (y2 ys (SqL.of e2))
    unfold zipD at q
    rw [List.getElem?_zipWith, f0, f1] at q
    cases q
    have g : Grow H (upd H T (.tup [z, u])) := Grow.upd nT
    have m : ∀ a o, H a = some o → ¬ Lv r h a → upd H T (.tup [z, u]) a = some o ∧ ¬ Lv r h a := fun a o e n => ⟨g a o e, n⟩
    exact ⟨g, .tup upd_same (R.fresh nT) (.cons (TR.mono m _ _ t0) (.cons (TR.mono m _ _ t1) .nil))⟩
theorem itr_zipT {a b : Addr} {xs ys : List V} {ds es : List PyData} : ItR K (zipD ds es) (RZ.ItzT K a b) (fun r h H => (H a = some (.tup xs) ∧ ¬ Lv r h a ∧ TRs K (Lv r h) H xs ds) ∧ H b = some (.tup ys) ∧ ¬ Lv r h b ∧ TRs K (Lv r h) H ys es) where
  keep := fun r h H r' h' H' ⟨⟨e, n, t⟩, e2, n2, t2⟩ E => ⟨⟨(E.keep _ _ e n).1, (E.keep _ _ e n).2, TRs.mono E.keep _ _ t⟩, (E.keep _ _ e2 n2).1, (E.keep _ _ e2 n2).2, TRs.mono E.keep _ _ t2⟩
  go := fun r h H i ⟨⟨e, n, t⟩, e2, n2, t2⟩ l => by
    have l2 : i < min ds.length es.length := by simpa [zipD] using l
    have h1 := t.length
    have h2 := t2.length
    exact ⟨xs, ys, xs[i]'(by omega), ys[i]'(by omega), SqT.of e, SqT.of e2, List.getElem?_eq_getElem _, List.getElem?_eq_getElem _⟩
  stop := fun r h H i ⟨⟨e, n, t⟩, e2, n2, t2⟩ l => by
    have l2 : min ds.length es.length ≤ i := by simpa [zipD] using l
    have h1 := t.length
    have h2 := t2.length
    exact ⟨xs, ys, SqT.of e, SqT.of e2, by omega⟩
  yld := fun r S h s H i d x H' ⟨⟨e, n, t⟩, e2, n2, t2⟩ R q y => by
    obtain ⟨T, z, u, rfl, nT, rfl, y1, y2⟩ := y
    obtain ⟨d0, f0, t0⟩ := t.getV (y1 xs (SqT.of e))
    obtain ⟨d1, f1, t1⟩ := t2.getV (y2 ys (SqT.of e2))
    unfold zipD at q
    rw [List.getElem?_zipWith, f0, f1] at q
    cases q
    have g : Grow H (upd H T (.tup [z, u])) := Grow.upd nT
    have m : ∀ a o, H a = some o → ¬ Lv r h a → upd H T (.tup [z, u]) a = some o ∧ ¬ Lv r h a := fun a o e n => ⟨g a o e, n⟩
    exact ⟨g, .tup upd_same (R.fresh nT) (.cons (TR.mono m _ _ t0) (.cons (TR.mono m _ _ t1) .nil))⟩
def zipM : List D → M (List PyData)
  | [.t (.list ds), .t (.list es)] => ret (zipD ds es)
  | [.t (.tuple ds), .t (.tuple es)] => ret (zipD ds es)
  | _ => fail
def iZip (ms : DS → M (List D)) : DS → M (List PyData) := fun S => bd (ms S) zipM
theorem zipM_inv {ds : List D} {h h' : Hd} {r : Res (List PyData)} (e : zipM ds h = some r) : (∃ a b, ds = [.t (.list a), .t (.list b)] ∧ r = .ok (zipD a b) h) ∨ (∃ a b, ds = [.t (.tuple a), .t (.tuple b)] ∧ r = .ok (zipD a b) h) := by
  unfold zipM at e
  split at e
  · cases e; exact .inl ⟨_, _, rfl, rfl⟩
  · cases e; exact .inr ⟨_, _, rfl, rfl⟩
  · cases e
theorem di_zip {e e2 : Expr} {ms : DS → M (List D)} {p pos tpos : Pos} {elts : List Expr} {kk : Nat} (hg : Gl X "zip") (hm : X.mg "zip" = none) (ha : DA X WE [e, e2] ms) (hs : starEach [e, e2] X.env = (false, eval e X.env) :: starEach [e2] X.env := by rfl) (hpl : (backTo pos (starEach [e2] X.env)).any (·.1) = false := by rfl) : DI X WE (.Tuple elts kk tpos) (.Call (.Name "zip" p) [e, e2] [] pos) (iZip ms) :=
  PI.imp (RZ.pi_zipA hg hm ha hs hpl) fun s H Q ⟨r, S, h, R, p⟩ => ⟨r, S, h, R, p.bd.mono fun ds r1 h1 H1 R1 E1 q vs dvs => by
    cases e0 : zipM ds h1 with
    | none => rw [e0] at q; exact False.elim q
    | some y =>
      rcases zipM_inv (h' := h1) e0 with ⟨a, b, rfl, rfl⟩ | ⟨a, b, rfl, rfl⟩
      · cases dvs with
        | cons d1 dvs =>
          cases dvs with
          | cons d2 dvs =>
            cases dvs
            cases d1 with
            | lst e n t =>
              cases d2 with
              | lst e2 n2 t2 =>
                rw [e0] at q
                exact ⟨_, _, _, _, rfl, .inl ⟨SqL.of e, SqL.of e2, q r1 H1 R1 .refl _ _ H1 Grow.refl ⟨⟨e, n, t⟩, e2, n2, t2⟩ itr_zip⟩⟩
      · cases dvs with
        | cons d1 dvs =>
          cases dvs with
          | cons d2 dvs =>
            cases dvs
            cases d1 with
            | tup e n t =>
              cases d2 with
              | tup e2 n2 t2 =>
                rw [e0] at q
                exact ⟨_, _, _, _, rfl, .inr ⟨SqT.of e, SqT.of e2, q r1 H1 R1 .refl _ _ H1 Grow.refl ⟨⟨e, n, t⟩, e2, n2, t2⟩ itr_zipT⟩⟩⟩
/-! least and greatest of alike data -/
def alikeB (xs : List PyData) : Bool := xs.all (fun x => xs.all (fun y => PySem.W.alike x y)) && xs.all (fun x => match x with | .none => false | _ => true)
theorem alikeB_of {xs : List PyData} (h : alikeB xs = true) : PySem.W.AlikeAll xs := by
  unfold alikeB at h
  rw [Bool.and_eq_true, List.all_eq_true, List.all_eq_true] at h
  refine ⟨fun x hx y hy => ?_, fun x hx e => ?_⟩
  · have := h.1 x hx
    rw [List.all_eq_true] at this
    exact this y hy
  · subst e
    exact absurd (h.2 _ hx) (by simp)
theorem canLay_mem : ∀ {xs : List PyData} {x : PyData}, PyData.canLayAll0 xs = true → x ∈ xs → x.canLay0 = true
  | [], _, _, m => by simp at m
  | y :: ys, x, h, m => by
    have h' : y.canLay0 = true ∧ PyData.canLayAll0 ys = true := by simpa [PyData.canLayAll0] using h
    rcases List.mem_cons.mp m with e | e
    · exact e ▸ h'.1
    · exact canLay_mem h'.2 e
def rBestD (K : PySem.W.Frag) (f : PyData → List PyData → PyData) : List V → Hp → VK → Prop := fun vs H Q => ∃ (a : Addr) (ys : List V) (x : PyData) (xs : List PyData), vs = [.ref a] ∧ SqL K H a ys ∧ DpAll K H ys (x :: xs) ∧ SeqAt.shaped (.list (x :: xs)) = true ∧ PySem.W.AlikeAll (x :: xs) ∧ ∀ (i : Nat) (v : V), ys[i]? = some v → (x :: xs)[i]? = some (f x xs) → Q v H
theorem best_fin {pins : List (Addr × Obj)} {s : Shared} {σ : St} {H : Hp} {Q : VK} {ys : List V} {its : List Value} {x : PyData} {xs : List PyData} {z : PyData} (I : Inv X pins σ H s) (rv : Vals ys its) (dp : DpAll X.K H ys (x :: xs)) (sh : SeqAt.shaped (.list (x :: xs)) = true)
    (q : ∀ (i : Nat) (v : V), ys[i]? = some v → (x :: xs)[i]? = some z → Q v H) {i : Nat} {u : Value} {h' : Heap} {tk : Nat} {bs : List Addr} (hu : its.toArray[i]? = some u) (hr : Reads h' u z bs) (hk : ∀ b o, s.heap.get? b = some o → h'.get? b = some o) : EP X pins σ Q u { s with heap := h', toks := tk } := by
  have hu' : its[i]? = some u := by simpa using hu
  obtain ⟨as, rs⟩ := Dp.readsAll I _ _ _ dp rv
  obtain ⟨cs, r1, l1, m1, _⟩ := PySem.W.readsAll_at rs i u hu'
  have cl : PyData.canLayAll0 (x :: xs) = true := by
    have := SeqAt.canLay_of_shaped sh
    simpa [PyData.canLay0] using this
  have e1 : (x :: xs).getD i .none = z := SeqAt.Reads.unique _ _ _ _ _ (canLay_mem cl m1) (PySem.W.reads_keeps hk r1) hr
  have e2 : (x :: xs)[i]? = some z := by
    rw [← e1, List.getElem?_eq_getElem l1]
    simp [List.getD, List.getElem?_eq_getElem l1]
  have hl : i < ys.length := by
    have h1 := rv.length
    have h2 := (List.getElem?_eq_some_iff.mp hu').1
    omega
  obtain ⟨u', hu2, rr⟩ := rv.get (List.getElem?_eq_getElem hl)
  rw [hu'] at hu2
  cases hu2
  exact ⟨_, H, I.kept hk, rr, q i _ (List.getElem?_eq_getElem hl) e2⟩
theorem depthAll_of {xs : List PyData} (sh : SeqAt.shaped (.list xs) = true) : PyData.depthAll xs ≤ 63 := by
  have := SeqAt.depth_of_shaped sh
  have e : (PyData.list xs).depth = PyData.depthAll xs + 1 := by simp [PyData.depth]
  omega
theorem cr_minD (hc : X.calm = true) (hu : X.A.units + 64 < cLine) : CallR X (.builtin "min") (rBestD X.K PySem.W.minD) := by
  intro pins s σ H vs us Q I r h
  obtain ⟨a, ys, x, xs, rfl, hs, dp, sh, al, q⟩ := h
  obtain ⟨its, rv, hl, _⟩ := I.list hs
  rw [Vals.ref1 r]
  obtain ⟨as, rs⟩ := Dp.readsAll I _ _ _ dp rv
  have := depthAll_of sh
  exact PySem.W.min_list_data (I.ok.hd hc) hl.isList (by simpa using rs) al (by omega) fun i u h' tk bs hu hr hk => best_fin I rv dp sh q hu hr hk
theorem cr_maxD (hc : X.calm = true) (hu : X.A.units + 64 < cLine) : CallR X (.builtin "max") (rBestD X.K PySem.W.maxD) := by
  intro pins s σ H vs us Q I r h
  obtain ⟨a, ys, x, xs, rfl, hs, dp, sh, al, q⟩ := h
  obtain ⟨its, rv, hl, _⟩ := I.list hs
  rw [Vals.ref1 r]
  obtain ⟨as, rs⟩ := Dp.readsAll I _ _ _ dp rv
  have := depthAll_of sh
  exact PySem.W.max_list_data (I.ok.hd hc) hl.isList (by simpa using rs) al (by omega) fun i u h' tk bs hu hr hk => best_fin I rv dp sh q hu hr hk
def bestP (f : PyData → List PyData → PyData) : List PyData → Option PyData
  | [.list (x :: xs)] => if SeqAt.shaped (.list (x :: xs)) && alikeB (x :: xs) then some (f x xs) else none
  | _ => none
theorem pw_best {f : PyData → List PyData → PyData} : PureW K (rBestD K f) (bestP f) := by
  intro L H vs xs z Q hL w0 e k
  unfold bestP at e
  split at e
  · rename_i x ds
    obtain ⟨v, rfl, w⟩ := w0.one
    obtain ⟨a, ys, rfl, e1, t1⟩ := w
    split at e
    · rename_i hh
      rw [Bool.and_eq_true] at hh
      cases e
      exact ⟨a, ys, x, ds, rfl, e1, t1.dp, hh.1, alikeB_of hh.2, fun i v hv hd => by
        obtain ⟨d0, f0, t0⟩ := t1.getV hv
        rw [hd] at f0
        cases f0
        exact k v H Grow.refl t0⟩
    · cases e
  · cases e
theorem PureW.or {r r' : List V → Hp → VK → Prop} {g g' : List PyData → Option PyData} (a : PureW K r g) (b : PureW K r' g') : PureW K (fun vs H Q => r vs H Q ∨ r' vs H Q) (fun xs => (g xs).or (g' xs)) := by
  intro L H vs xs z Q hL w0 e0 k
  have e : (g xs).or (g' xs) = some z := e0
  cases q : g xs with
  | some y => rw [q] at e; cases e; exact .inl (a L H vs xs _ Q hL w0 q k)
  | none => rw [q] at e; exact .inr (b L H vs xs _ Q hL w0 e k)
def minQ (xs : List PyData) : Option PyData := (minP xs).or (bestP PySem.W.minD xs)
def maxQ (xs : List PyData) : Option PyData := (maxP xs).or (bestP PySem.W.maxD xs)
theorem call_minQ (hc : X.calm = true) (hu : X.A.units + 64 < cLine) : CallR X (.builtin "min") (fun xs H Q => ((∃ i j, xs = [.int i, .int j] ∧ Q (.int (if j < i then j else i)) H) ∨ rMin X.K xs H Q) ∨ rBestD X.K PySem.W.minD xs H Q) := (call_minA hc).or (cr_minD hc hu)
theorem call_maxQ (hc : X.calm = true) (hu : X.A.units + 64 < cLine) : CallR X (.builtin "max") (fun xs H Q => ((∃ i j, xs = [.int i, .int j] ∧ Q (.int (if j > i then j else i)) H) ∨ rMax X.K xs H Q) ∨ rBestD X.K PySem.W.maxD xs H Q) := (call_maxA hc).or (cr_maxD hc hu)
theorem pw_minQ : PureW K (fun xs H Q => ((∃ i j, xs = [.int i, .int j] ∧ Q (.int (if j < i then j else i)) H) ∨ rMin K xs H Q) ∨ rBestD K PySem.W.minD xs H Q) minQ := pw_min.or pw_best
theorem pw_maxQ : PureW K (fun xs H Q => ((∃ i j, xs = [.int i, .int j] ∧ Q (.int (if j > i then j else i)) H) ∨ rMax K xs H Q) ∨ rBestD K PySem.W.maxD xs H Q) maxQ := pw_max.or pw_best
end
end DL
set_option Elab.async false
set_option linter.all false
set_option maxRecDepth 100000
set_option maxHeartbeats 2000000
set_option autoImplicit false
namespace DL
open PySem PySem.Spec L2
open PyProof.Rows hiding St

/-! sorted of texts -/
def leS (a b : Str) : Prop := ltCps b.cps.toList a.cps.toList = false
def insS (x : Str) : List Str → List Str
  | [] => [x]
  | y :: ys => if ltCps y.cps.toList x.cps.toList then y :: insS x ys else x :: y :: ys
def sortS (l : List Str) : List Str := l.foldr insS []
theorem insS_perm (x : Str) : ∀ l : List Str, (insS x l).Perm (x :: l)
  | [] => .refl _
  | y :: ys => by
    unfold insS
    split
    · exact ((insS_perm x ys).cons y).trans (.swap x y ys)
    · exact .refl _
theorem sortS_perm : ∀ l : List Str, (sortS l).Perm l
  | [] => .refl _
  | x :: l => (insS_perm x (sortS l)).trans ((sortS_perm l).cons x)
theorem lt_iff {a b : Str} : ltCps a.cps.toList b.cps.toList = true ↔ a.cps.toList < b.cps.toList := by
  rw [PyProof.Rows.ltCps_eq]; simp
theorem leS_iff {a b : Str} : leS a b ↔ a.cps.toList ≤ b.cps.toList := by
  unfold leS
  rw [PyProof.Rows.ltCps_eq, decide_eq_false_iff_not]
  exact Iff.rfl
theorem leS_trans {a b c : Str} (h : leS a b) (g : leS b c) : leS a c := by
  rw [leS_iff] at *
  exact List.le_trans h g
theorem leS_total {a b : Str} (h : ¬ leS a b) : leS b a := by
  rw [leS_iff] at *
  rcases List.le_total a.cps.toList b.cps.toList with q | q
  · exact absurd q h
  · exact q
theorem str_ext {a b : Str} (h : a.cps.toList = b.cps.toList) : a = b := by
  cases a; cases b
  congr
  exact Array.toList_inj.mp h
theorem leS_anti {a b : Str} (h : leS a b) (g : leS b a) : a = b := by
  rw [leS_iff] at *
  exact str_ext (List.le_antisymm h g)
theorem insS_sorted (x : Str) : ∀ l : List Str, l.Pairwise leS → (insS x l).Pairwise leS
  | [], _ => by simp [insS]
  | y :: ys, h => by
    rw [List.pairwise_cons] at h
    unfold insS
    split
    · rename_i q
      rw [List.pairwise_cons]
      refine ⟨fun z hz => ?_, insS_sorted x ys h.2⟩
      rcases List.mem_cons.mp ((insS_perm x ys).mem_iff.mp hz) with e | e
      · subst e
        apply leS_total
        intro g
        unfold leS at g
        rw [g] at q
        exact absurd q (by simp)
      · exact h.1 z e
    · rename_i q
      have q' : leS x y := by unfold leS; simpa using q
      rw [List.pairwise_cons, List.pairwise_cons]
      refine ⟨fun z hz => ?_, h⟩
      rcases List.mem_cons.mp hz with e | e
      · exact e ▸ q'
      · exact leS_trans q' (h.1 z e)
theorem sortS_sorted : ∀ l : List Str, (sortS l).Pairwise leS
  | [] => .nil
  | x :: l => insS_sorted x _ (sortS_sorted l)
theorem pairwise_of_sortedS : ∀ (l : List Str), sortedS l = true → l.Pairwise leS
  | [], _ => .nil
  | x :: r, h => by
    have aux : ∀ (r : List Str) (p : Str), risingS p r = true → (∀ y ∈ r, leS p y) ∧ r.Pairwise leS := by
      intro r
      induction r with
      | nil => intro p _; exact ⟨fun y hy => by simp at hy, .nil⟩
      | cons y ys ih =>
        intro p hp
        unfold risingS at hp
        rw [Bool.and_eq_true] at hp
        have h1 : leS p y := by unfold leS; simpa using hp.1
        obtain ⟨h2, h3⟩ := ih y hp.2
        refine ⟨fun z hz => ?_, List.pairwise_cons.mpr ⟨h2, h3⟩⟩
        rcases List.mem_cons.mp hz with e | e
        · exact e ▸ h1
        · exact leS_trans h1 (h2 z e)
    exact List.pairwise_cons.mpr (aux r x h)
theorem sortS_one {ys l : List Str} (p : ys.Perm l) (h : sortedS ys = true) : ys = sortS l :=
  List.Perm.eq_of_pairwise (fun _ _ _ _ a b => leS_anti a b) (pairwise_of_sortedS _ h) (sortS_sorted l) (p.trans (sortS_perm l).symm)
def sortSP : List PyData → Option (List PyData)
  | [.list ds] => (strsP ds).bind fun ss => if ss.length < 64 then some ((sortS ss).map .str) else none
  | _ => none
section
variable {X : Cx} {WE : EW} {K : PySem.W.Frag}
theorem strsP_of' : ∀ {ds : List PyData} {ss : List Str}, strsP ds = some ss → ds = ss.map PyData.str
  | [], ss, h => by simp [strsP] at h; subst h; rfl
  | .str x :: ds, ss, h => by
    unfold strsP at h
    cases q : strsP ds with
    | none => rw [q] at h; cases h
    | some r =>
      rw [q] at h
      cases h
      rw [strsP_of' q]; rfl
  | .none :: _, _, h => by simp [strsP] at h
  | .bool _ :: _, _, h => by simp [strsP] at h
  | .int _ :: _, _, h => by simp [strsP] at h
  | .list _ :: _, _, h => by simp [strsP] at h
  | .tuple _ :: _, _, h => by simp [strsP] at h
  | .dict _ :: _, _, h => by simp [strsP] at h
theorem pn_sortS : PureN K (rSortedS K) sortSP := by
  intro L H vs xs ds Q w0 e k
  unfold sortSP at e
  split at e
  · rename_i es
    obtain ⟨v, rfl, w⟩ := w0.one
    obtain ⟨a, ys, rfl, e1, t1⟩ := w
    cases q : strsP es with
    | none => rw [q] at e; cases e
    | some ss =>
      rw [q] at e
      simp only [Option.bind] at e
      split at e
      · rename_i hl
        cases e
        rw [strsP_of' q] at t1
        have := trs_strs_inv t1
        subst this
        refine ⟨a, ss, rfl, e1, hl, fun ys p hp hs np => ?_⟩
        rw [sortS_one hp hs]
        exact k p _ np (trs_strs _)
      · cases e
  · cases e
theorem PureN.or {r r' : List V → Hp → VK → Prop} {g g' : List PyData → Option (List PyData)} (a : PureN K r g) (b : PureN K r' g') : PureN K (fun vs H Q => r vs H Q ∨ r' vs H Q) (fun xs => (g xs).or (g' xs)) := by
  intro L H vs xs ds Q w0 e0 k
  have e : (g xs).or (g' xs) = some ds := e0
  cases q : g xs with
  | some y => rw [q] at e; cases e; exact .inl (a L H vs xs _ Q w0 q k)
  | none => rw [q] at e; exact .inr (b L H vs xs _ Q w0 e k)
def sortQ (xs : List PyData) : Option (List PyData) := (sortP xs).or (sortSP xs)
theorem call_sortQ : CallR X (.builtin "sorted") (fun vs H Q => rSortedI X.K vs H Q ∨ rSortedS X.K vs H Q) := cr_sortedI.or cr_sortedS
theorem pn_sortQ : PureN K (fun vs H Q => rSortedI K vs H Q ∨ rSortedS K vs H Q) sortQ := pn_sort.or pn_sortS
/-! sorted(dict(pairs)), keys texts -/
def keysP : List PyData → Option (List Str)
  | [] => some []
  | .tuple [.str x, _] :: ds => (keysP ds).map (x :: ·)
  | _ => none
def uniS (acc : List Str) (xs : List Str) : List Str := xs.foldl (fun acc x => if x ∈ acc then acc else acc ++ [x]) acc
theorem keys_put {kvs : List (L2.Key × V)} {acc : List Str} {x : Str} {v : V} (h : kvs.map (·.1) = acc.map Sum.inr) : (putK kvs (Sum.inr x) v).map (·.1) = (if x ∈ acc then acc else acc ++ [x]).map Sum.inr := by
  have e : (kvs.any fun kv => decide (kv.1 = Sum.inr x)) = decide (x ∈ acc) := by
    rw [Bool.eq_iff_iff, List.any_eq_true, decide_eq_true_eq]
    constructor
    · rintro ⟨kv, m, q⟩
      have m2 : kv.1 ∈ kvs.map (·.1) := List.mem_map_of_mem m
      rw [h, of_decide_eq_true q] at m2
      obtain ⟨y, my, ey⟩ := List.mem_map.mp m2
      cases ey
      exact my
    · intro m
      have m2 : (Sum.inr x : L2.Key) ∈ kvs.map (·.1) := by rw [h]; exact List.mem_map_of_mem m
      obtain ⟨kv, mk, ek⟩ := List.mem_map.mp m2
      exact ⟨kv, mk, by simp [ek]⟩
  unfold putK
  rw [e]
  by_cases q : x ∈ acc
  · rw [if_pos (by simpa using q), if_pos q, ← h, List.map_map]
    apply List.map_congr_left
    intro kv _
    simp only [Function.comp]
    split <;> rfl
  · rw [if_neg (by simpa using q), if_neg q]
    simp [h]
theorem keys_merge : ∀ (more : List (L2.Key × V)) (xs : List Str) (kvs : List (L2.Key × V)) (acc : List Str), more.map (·.1) = xs.map Sum.inr → kvs.map (·.1) = acc.map Sum.inr → (mergeK kvs more).map (·.1) = (uniS acc xs).map Sum.inr
  | [], [], kvs, acc, _, h => h
  | [], x :: xs, _, _, e, _ => by simp at e
  | kv :: more, [], _, _, e, _ => by simp at e
  | kv :: more, x :: xs, kvs, acc, e, h => by
    simp only [List.map_cons, List.cons.injEq] at e
    obtain ⟨k, v⟩ := kv
    have ek : k = Sum.inr x := e.1
    subst ek
    exact keys_merge more xs (putK kvs (Sum.inr x) v) _ e.2 (keys_put h)
theorem pairs_of {L : Addr → Prop} {H : Hp} : ∀ {ds : List PyData} {xs : List V} {ks : List Str}, TRs K L H xs ds → keysP ds = some ks → ∃ (ps : List Addr) (kvs : List (L2.Key × V)), xs = ps.map V.ref ∧ Paired (fun p kv => SqT K H p [kV kv.1, kv.2]) ps kvs ∧ kvs.map (·.1) = ks.map Sum.inr
  | [], _, ks, t, e => by
    cases t
    cases e
    exact ⟨[], [], rfl, .nil, rfl⟩
  | d :: ds, _, ks, t, e => by
    unfold keysP at e
    split at e
    · rename_i h
      cases h
    · rename_i x d2 ds' h
      cases h
      cases t with
      | cons t1 t2 =>
        cases q : keysP ds with
        | none => rw [q] at e; cases e
        | some ks' =>
          rw [q] at e
          cases e
          obtain ⟨ps, kvs, rfl, pr, ek⟩ := pairs_of t2 q
          cases t1 with
          | tup e1 n1 u1 =>
            cases u1 with
            | cons a1 b1 =>
              cases b1 with
              | cons a2 b2 =>
                cases b2
                cases a1
                exact ⟨_ :: ps, (Sum.inr x, _) :: kvs, rfl, .cons (SqT.of e1) pr, by simp [ek]⟩
    · cases e
def sdP : PyData → Option (List PyData)
  | .list ds => (keysP ds).bind fun ks => if (uniS [] ks).length < 64 then some ((sortS (uniS [] ks)).map .str) else none
  | _ => none
/-- sorted(dict(pairs)) -/
def dSD (c : Bool) (m : DS → M D) : DS → M D := fun S => bd (m S) fun d => match d with
  | .t x => bd (opt (sdP x)) fun z => mk c z
  | _ => fail
theorem de_sd (c : Bool) {e : Expr} {m : DS → M D} {p p2 pos pos2 : Pos} (hc : X.calm = true) (g1 : Gl X "sorted") (m1 : X.mg "sorted" = none) (g2 : Gl X "dict") (m2 : X.mg "dict" = none) (v1 : bootBuiltins "sorted" = some (.builtin "sorted")) (v2 : bootBuiltins "dict" = some (.type "dict")) (he : DE X WE e m)
    (s1 : starEach [e] X.env = (false, eval e X.env) :: starEach [] X.env := by rfl) (s2 : starEach [Expr.Call (.Name "dict" p2) [e] [] pos2] X.env = (false, eval (Expr.Call (.Name "dict" p2) [e] [] pos2) X.env) :: starEach [] X.env := by rfl) :
    DE X WE (.Call (.Name "sorted" p) [.Call (.Name "dict" p2) [e] [] pos2] [] pos) (dSD c m) :=
  PE.imp (pe_callB (call_sortedD hc) g1 m1 v1 (pa_cons (pe_callTy (call_dictP hc) g2 m2 v2 (pa_cons he pa_nil s1) (he := s1) (hpl := rfl)) pa_nil s2) (he := s2) (hpl := rfl)) fun s H Q ⟨r, S, h, R, q⟩ => ⟨r, S, h, R, q.bd.mono fun d r1 h1 H1 R1 E1 q v dv => by
    cases d with
    | t d =>
      obtain ⟨zs, z1, z2⟩ := q.bd.opt R1
      cases d with
      | list ds =>
        cases dv with
        | lst e n t =>
          unfold sdP at z1
          cases k : keysP ds with
          | none => simp only [k] at z1; cases z1
          | some ks =>
            simp only [k, Option.bind] at z1
            split at z1
            · rename_i h64
              cases z1
              obtain ⟨ps, kvs, rfl, pr, ek⟩ := pairs_of t k
              refine ⟨_, ps, kvs, rfl, SqL.of e, pr, fun p2 np => ?_⟩
              refine ⟨p2, mergeK [] kvs, uniS [] ks, rfl, .inl upd_same, keys_merge kvs ks [] [] ek rfl, h64, fun ys p3 hp hs np3 => ?_⟩
              rw [sortS_one hp hs]
              have g : Grow _ (upd H1 p2 (.dK (mergeK [] kvs))) := Grow.upd np
              obtain ⟨d', r', h', R', E', d1, g1⟩ := mk_ok (R1.grow g) (trs_strs (sortS (uniS [] ks))) np3 (z2.at (.grow g))
              exact g1 _ d1
            · cases z1
      | _ => cases z1
    | _ => exact False.elim q⟩
/-! xs.index(x) of texts -/
def firstS (x : Str) : List Str → Option Nat
  | [] => none
  | y :: ys => if y = x then some 0 else (firstS x ys).map (· + 1)
theorem firstS_at {x : Str} : ∀ {ys : List Str} {j : Nat}, firstS x ys = some j → ys[j]? = some x ∧ ∀ m y, m < j → ys[m]? = some y → y ≠ x
  | [], _, h => by simp [firstS] at h
  | y :: ys, j, h => by
    unfold firstS at h
    split at h
    · rename_i e
      cases h
      exact ⟨by simp [e], fun m z hm => absurd hm (Nat.not_lt_zero _)⟩
    · rename_i e
      cases q : firstS x ys with
      | none => rw [q] at h; cases h
      | some i =>
        rw [q] at h
        cases h
        obtain ⟨a, b⟩ := firstS_at q
        refine ⟨by simpa using a, fun m z hm hz => ?_⟩
        cases m with
        | zero => simp at hz; exact hz ▸ e
        | succ m => exact b m z (Nat.lt_of_succ_lt_succ hm) (by simpa using hz)
def indexP : PyData → List PyData → Option PyData
  | .list ds, [.str x] => (strsP ds).bind fun ss => (firstS x ss).map fun j => .int (j : Nat)
  | _, _ => none
theorem pm_index : PureM K (rIndex K) indexP := by
  intro L H x vs a xs z Q hL wa w0 e k
  unfold indexP at e
  split at e
  · rename_i ds y
    obtain ⟨v, rfl, w⟩ := w0.one
    cases w
    obtain ⟨p, ys, rfl, e1, t1⟩ := wa
    cases q : strsP ds with
    | none => rw [q] at e; cases e
    | some ss =>
      rw [q] at e
      simp only [Option.bind] at e
      cases q2 : firstS y ss with
      | none => rw [q2] at e; cases e
      | some j =>
        rw [q2] at e
        cases e
        rw [strsP_of' q] at t1
        have := trs_strs_inv t1
        subst this
        obtain ⟨f1, f2⟩ := firstS_at q2
        refine ⟨p, ss.map V.str, V.str y, j, V.str y, rfl, rfl, e1, rfl, by simp [flatV], by rw [List.getElem?_map, f1]; rfl, by simp [eqV], fun m z' hm hz => ?_, k _ H Grow.refl (.int _)⟩
        rw [List.getElem?_map] at hz
        cases q3 : ss[m]? with
        | none => rw [q3] at hz; cases hz
        | some y' =>
          rw [q3] at hz
          cases hz
          have := f2 m y' hm q3
          simpa [eqV] using this
  · cases e
end
end DL
set_option Elab.async false
set_option linter.all false
set_option maxRecDepth 100000
set_option maxHeartbeats 2000000
set_option autoImplicit false
namespace DL
open PySem PySem.Spec L2 HT
open PyProof.Rows hiding St
/-! x[::-1] of a list, a tuple, a text -/
section
variable {prog : Program} {w : World} {A : Around} {E : Value → Shared → Prop} {s : Shared}
theorem sliceApplied_back {sl : Addr} {vs : Value} {n : Nat} {Q : Int × Int × Nat → Shared → Prop} (hs : s.heap.IsSliceOf sl .none .none vs) (ps : IsPart vs (some (-1)))
    (h : Q ((n : Int) - 1, -1, n) s) : wpAny (model prog w) A (Builtin.Slice.sliceApplied (.ref sl) (pure (n : Int))) Q E s := by
  obtain ⟨os, hos, hcs, hds⟩ := id hs
  unfold Builtin.Slice.sliceApplied Builtin.Slice.sliceFields
  refine wpAny_bind (wpAny_bind (wpAny_field hos hds (x := .none) rfl (wpAny_bind (wpAny_field hos hds (x := .none) rfl (wpAny_bind (wpAny_field hos hds (x := vs) rfl (wpAny_pure ?_)))))))
  refine wpAny_bind (slicePart_ ps ?_)
  show wpAny _ _ (if ((-1 : Int) == 0) = true then _ else _) _ _ s
  rw [if_neg (by decide)]
  refine wpAny_bind (slicePart_none (wpAny_bind (slicePart_none (wpAny_bind (wpAny_pure ?_)))))
  have e : Builtin.Slice.slicePlaces ((n : Int) - 1) (-1) (-1) = n := by
    unfold Builtin.Slice.slicePlaces
    rw [if_neg (by decide)]
    by_cases h : (n : Int) - 1 > -1
    · rw [if_pos h, show (-(-1) : Int) = 1 by decide, Int.ediv_one]
      omega
    · rw [if_neg h]
      omega
  show wpAny _ _ (pure ((n : Int) - 1, (-1 : Int), Builtin.Slice.slicePlaces ((n : Int) - 1) (-1) (-1))) _ _ s
  rw [e]
  exact wpAny_pure h
theorem pick_back (xs : Array Value) : ((List.range xs.size).filterMap fun (m : Nat) => xs[((xs.size : Int) - 1 + (m : Int) * (-1)).toNat]?).toArray = xs.toList.reverse.toArray := by
  have e : (fun (m : Nat) => xs[((xs.size : Int) - 1 + (m : Int) * (-1)).toNat]?) = fun m : Nat => xs[((xs.size : Int) - 1 - (m : Int)).toNat]? := by
    funext m
    congr 2
    omega
  have e2 : (List.range xs.size).filterMap (fun (m : Nat) => xs[((xs.size : Int) - 1 - (m : Int)).toNat]?) = ((List.range xs.size).map fun k => xs.size - 1 - k).filterMap (xs[·]?) := by
    rw [List.filterMap_map]
    congr 1
    funext m
    show xs[((xs.size : Int) - 1 - (m : Int)).toNat]? = xs[xs.size - 1 - m]?
    congr 1
    omega
  rw [e, e2, PySem.W.krv_range, List.filterMap_reverse, PySem.W.krv_all]
theorem getItem_tuple_back {t sl : Addr} {items : Array Value} {vs : Value} {Q : Value → Shared → Prop} (ht : IsTup s.heap t items) (hs : s.heap.IsSliceOf sl .none .none vs) (ps : IsPart vs (some (-1)))
    (h : Q (.ref s.heap.objs.size) { s with heap := s.heap.push { cls := .type "tuple", data := .seq items.toList.reverse.toArray } })
    (hsz : items.size ≤ sizeLine) : wpAny (model prog w) A (getItem (.ref t) (.ref sl)) Q E s := by
  have htake : sizeOk (.seq items.toList.reverse.toArray) := by
    show items.toList.reverse.toArray.size ≤ sizeLine
    simpa using hsz
  obtain ⟨os, hos, hcs, hds⟩ := id hs
  have hTs : s.TypeIs (.ref sl) "slice" := ⟨os, hos, hcs⟩
  unfold getItem
  try with_reducible refine wpAny_holding ?_
  first | refine wpAny_bind (wpAny_pure ?_) | skip
  refine wpAny_bind (wpAny_sequenceKey ht.typeIs (by decide) ?_)
  refine wpAny_bind (wpAny_callSpecial?_slot (name := Str.ofString "__getitem__") ht.typeIs PyProof.Rows.slot_tuple_getitem
    (wpAny_call_entry PyProof.Rows.slot_tuple_getitem ht.typeIs entry_tuple_getitem ?_ (args_tuple_getitem _ _)))
  show wpAny _ _ (Builtin.Tuple.tupleItemsOf (.ref t) >>= _) _ _ s
  refine wpAny_bind (tupleItemsOf_ ht ?_)
  refine wpAny_bind (wpAny_typeOf hTs ?_)
  rw [if_pos (by decide)]
  refine wpAny_bind (sliceApplied_back hs ps ?_)
  have hno : ¬ ((((items.size : Int) - 1) == 0 && (-1 : Int) == 1 && items.size == items.size) = true) := by
    simp
  show wpAny _ _ (if (((items.size : Int) - 1) == 0 && (-1 : Int) == 1 && items.size == items.size) = true then _ else _) _ _ s
  rw [if_neg hno, pick_back]
  first
    | exact wpAny_bind (m := Builtin.Tuple.tupleExact _) (wpAny_newObj_type (wpAny_pure ⟨_, rfl, wpAny_pure h⟩) htake)
    | exact wpAny_bind (m := Builtin.Tuple.tupleExact _) (wpAny_newObj_type (wpAny_bind (wpAny_pure (wpAny_pure ⟨_, rfl, wpAny_pure h⟩))) htake)
    | exact wpAny_bind (wpAny_bind (m := Builtin.Tuple.tupleExact _) (wpAny_newObj_type (wpAny_pure (wpAny_pure ⟨_, rfl, wpAny_pure h⟩)) htake))
    | exact wpAny_bind (wpAny_bind (m := Builtin.Tuple.tupleExact _) (wpAny_newObj_type (wpAny_pure ⟨_, rfl, wpAny_pure h⟩) htake))
end
theorem str_back (z : Str) : (Builtin.Str.strSliceIndices none none (-1) z.length).filterMap (z.cps[·]?) = z.cps.toList.reverse := by
  have e : Builtin.Str.strSliceIndices none none (-1) z.length = sliceRange ((z.length : Int) - 1) (-1) (-1) := rfl
  rw [e, PySem.W.krv_sliceRange, PySem.W.krv_range, List.filterMap_reverse]
  congr 1
  exact PySem.W.krv_all z.cps
section
variable {X : Cx}
def tRevA (K : PySem.W.Frag) (te : TE) : TE := fun σ H Q => te σ H fun x H1 => (∃ a xs, x = .ref a ∧ SqL K H1 a xs ∧ ∀ p, H1 p = none → Q (.ref p) (upd H1 p (.lst xs.reverse))) ∨ (∃ a xs, x = .ref a ∧ SqT K H1 a xs ∧ ∀ p, H1 p = none → Q (.ref p) (upd H1 p (.tup xs.reverse))) ∨ ∃ z, x = .str z ∧ z.length ≤ sizeLine ∧ Q (.str (tx z.cps.toList.reverse)) H1
theorem pe_revA {e : Expr} {te : TE} {k : Nat} {p1 p2 p3 pos : Pos} (he : PE X e te) : PE X (.Subscript e (.Slice none none (some (.UnaryOp .USub (.Constant (.int 1) k p1) p2)) p3) pos) (tRevA X.K te) := by
  refine ⟨fun pins s σ H Q I h => ?_⟩
  refine Subscript_ (thn (he.run pins s σ H _ I h) fun v s1 ⟨x, H1, I1, r1, q1⟩ => ?_)
  have hst : PO X (some (.UnaryOp .USub (.Constant (.int 1) k p1) p2)) (tPart (tUn (rU fun i => .int (-i)) (tC (.int 1)))) := po_some (pe_un un_neg pe_int)
  refine wpAny_Slice (thn (po_none.run pins s1 σ H1 (fun o H2 => o = none ∧ H2 = H1) I1 ⟨rfl, rfl⟩) fun vl s2 ⟨l, H2, I2, pl, el, e2⟩ => ?_)
  subst el e2
  refine thn (po_none.run pins s2 σ H2 (fun o H3 => o = none ∧ H3 = H2) I2 ⟨rfl, rfl⟩) fun vu s3 ⟨u, H3, I3, pu, eu, e3⟩ => ?_
  subst eu e3
  refine thn (hst.run pins s3 σ H3 (fun o H4 => o = some (-1) ∧ H4 = H3) I3 ⟨1, rfl, -1, rfl, rfl, rfl⟩) fun vs s4 ⟨o, H4, I4, ps, eo, e4⟩ => ?_
  subst eo e4
  have I5 : Inv X pins σ H4 { s4 with heap := s4.heap.push { cls := .type "slice", data := .fields #[vl, vu, vs] } } := I4.kept (t' := s4.toks) fun b ob q => Heap.get?_push_of_some _ q
  cases pl
  cases pu
  rcases q1 with ⟨a, xs, ex, hx, q⟩ | ⟨a, xs, ex, hx, q⟩ | ⟨z, ex, hz, q⟩
  · subst ex
    cases r1
    obtain ⟨its, r, ht, hz⟩ := I5.list hx
    have hlen := r.length
    show wpAny (model X.prog X.w) X.A (subscriptTail e (.Slice none none (some (.UnaryOp .USub (.Constant (.int 1) k p1) p2)) p3) (.ref a) (.ref s4.heap.objs.size)) (EP X pins σ Q) X.xe { s4 with heap := s4.heap.push { cls := .type "slice", data := .fields #[.none, .none, vs] } }
    refine tail_any (ops := [.ref a, .ref s4.heap.objs.size]) ht.isList.typeIs (PySem.slot_list_getitem.lookup) ?_ (by with_unfolding_all rfl)
    refine wpAny_getItem_list_slice ht.isList (Heap.IsSliceOf.new _ .none .none vs) .none .none ps (by decide) ?_ (by rw [List.size_toArray]; omega)
    rw [PySem.W.krv_pick]
    refine ⟨.ref _, _, I5.laid (t' := s4.toks) (o := .lst xs.reverse) (fun b ob q => Heap.get?_push_of_some _ q) (Nat.le_refl _) ?_, rfl, q _ (I5.hok.fresh (Nat.le_refl _))⟩
    exact ⟨by rw [List.length_reverse]; exact hz, _, 0, r.reverse, Heap.get?_push_size _ rfl⟩
  · subst ex
    cases r1
    obtain ⟨its, r, ht, hz⟩ := I5.tuple hx
    have hlen := r.length
    show wpAny (model X.prog X.w) X.A (subscriptTail e (.Slice none none (some (.UnaryOp .USub (.Constant (.int 1) k p1) p2)) p3) (.ref a) (.ref s4.heap.objs.size)) (EP X pins σ Q) X.xe { s4 with heap := s4.heap.push { cls := .type "slice", data := .fields #[.none, .none, vs] } }
    refine tail_any (ops := [.ref a, .ref s4.heap.objs.size]) ht.typeIs (PyProof.Rows.slot_tuple_getitem.lookup) ?_ (by with_unfolding_all rfl)
    refine getItem_tuple_back ht (Heap.IsSliceOf.new _ .none .none vs) ps ?_ (by rw [List.size_toArray]; omega)
    refine ⟨.ref _, _, I5.laid (t' := s4.toks) (o := .tup xs.reverse) (fun b ob q => Heap.get?_push_of_some _ q) (Nat.le_refl _) ?_, rfl, q _ (I5.hok.fresh (Nat.le_refl _))⟩
    exact ⟨by rw [List.length_reverse]; exact hz, _, r.reverse, IsTup.new _ _⟩
  · subst ex
    obtain ⟨t, rfl⟩ := r1
    cases ps with
    | int i ti =>
      show wpAny (model X.prog X.w) X.A (subscriptTail e (.Slice none none (some (.UnaryOp .USub (.Constant (.int 1) k p1) p2)) p3) (.str z t) (.ref s4.heap.objs.size)) (EP X pins σ Q) X.xe { s4 with heap := s4.heap.push { cls := .type "slice", data := .fields #[.none, .none, .int (-1) ti] } }
      refine tail_any (ops := [.ref s4.heap.objs.size, .str z t]) (typeIs_str _ _ _) (F.slot_str_getitem.lookup) ?_ (by with_unfolding_all rfl)
      refine wpAny_getItem_str_slice (l := none) (u := none) (st := some (-1, ti)) ⟨_, Heap.get?_push_size _ rfl, rfl, rfl⟩ rfl ?_
      show Made.post (if ((-1 : Int) == 1 && (Builtin.Str.strSliceIndices none none (-1) z.length).length == z.length) = true then Made.val (.str z t) else Made.str ⟨((Builtin.Str.strSliceIndices none none (-1) z.length).filterMap (z.cps[·]?)).toArray⟩) (EP X pins σ Q) _
      rw [if_neg (by simp), str_back]
      refine ⟨?_, .str (tx z.cps.toList.reverse), _, I5.tok _, ⟨_, rfl⟩, q⟩
      show (tx z.cps.toList.reverse).length ≤ sizeLine
      simpa [Str.length] using hz
end
section
variable {K : PySem.W.Frag} {X : Cx} {WE : EW}
/-- x[::-1] -/
def dRevA (c : Bool) (m : DS → M D) : DS → M D := fun S => bd (m S) fun a => bd (rdw a) fun x => match x with
  | .list ds => mk c ds.reverse
  | .tuple ds => ret (.t (.tuple ds.reverse))
  | .str z => if z.length ≤ sizeLine then ret (.t (.str (tx z.cps.toList.reverse))) else fail
  | _ => fail
theorem de_revA (c : Bool) {e : Expr} {m : DS → M D} {k : Nat} {p1 p2 p3 pos : Pos} (he : DE X WE e m) : DE X WE (.Subscript e (.Slice none none (some (.UnaryOp .USub (.Constant (.int 1) k p1) p2)) p3) pos) (dRevA c m) :=
  PE.imp (pe_revA he) fun s H Q ⟨r0, S, h, R, p⟩ => ⟨r0, S, h, R, p.bd.mono fun a r1 h1 H1 R1 E1 q v dv => by
    obtain ⟨x, x1, x2⟩ := rdw_ok R1 dv q.bd
    cases x with
    | list ds =>
      obtain ⟨p, ys, rfl, e1, t1⟩ := x1
      refine .inl ⟨p, ys, rfl, e1, fun p np => ?_⟩
      obtain ⟨d, r', h', R', E', d1, g1⟩ := mk_ok R1 t1.reverse np x2
      exact g1 _ d1
    | tuple ds =>
      cases x1 with
      | @tup p ys _ e1 n1 t1 =>
        refine .inr (.inl ⟨p, ys, rfl, SqT.of e1, fun p np => ?_⟩)
        have g : Grow H1 (upd H1 p (.tup ys.reverse)) := Grow.upd np
        have E4 : Ext r1 h1 H1 r1 h1 (upd H1 p (.tup ys.reverse)) := .grow g
        exact x2 r1 _ (R1.grow g) E4 _ (.tup upd_same (R1.fresh np) (TRs.mono E4.keep _ _ t1.reverse))
    | str z =>
      simp only at x2
      split at x2
      · rename_i hz
        cases x1
        exact .inr (.inr ⟨_, rfl, hz, x2 r1 H1 R1 .refl _ (.str _)⟩)
      · exact False.elim x2
    | _ => exact False.elim x2⟩
end
/-! sorted(text) -/
section
variable {prog : Program} {w : World} {A : Around} {E : Value → Shared → Prop} {s : Shared}
theorem chars_of {x : Str} {acc : Array Value} (h : ItemsOf (SignAt x) acc x.cps.size) : Vals (x.cps.toList.map fun c => V.str (tx [c])) acc.toList := by
  obtain ⟨h1, h2⟩ := h
  have key : ∀ (l : List Nat) (vs : List Value), vs.length = l.length → (∀ (j : Nat) v, vs[j]? = some v → ∃ c u, l[j]? = some c ∧ v = Value.str ⟨#[c]⟩ u) → Vals (l.map fun c => V.str (tx [c])) vs := by
    intro l
    induction l with
    | nil =>
      intro vs hl _
      cases vs with
      | nil => exact .nil
      | cons v vs => cases hl
    | cons c l ih =>
      intro vs hl hv
      cases vs with
      | nil => cases hl
      | cons v vs =>
        obtain ⟨c', u, e1, e2⟩ := hv 0 v (by simp)
        simp at e1
        subst e1
        exact .cons ⟨u, e2⟩ (ih vs (by simpa using hl) fun j v' q => by
          obtain ⟨c2, u2, f1, f2⟩ := hv (j + 1) v' (by simpa using q)
          exact ⟨c2, u2, by simpa using f1, f2⟩)
  refine key _ _ (by simp [h1]) fun j v q => ?_
  obtain ⟨c2, u2, f1, f2⟩ := h2 j v (by simpa using q)
  exact ⟨c2, u2, by simpa using f1, f2⟩
theorem sorted_text {x : Str} {t : Tok} {Q : Value → Shared → Prop} (hh : A.handled = none) (hx : x.cps.size ≤ sizeLine)
    (h : ∀ (hm h' : Heap) (p : Addr) (tk : Nat) (out : List Value) (ys : List Str) (n : Nat), (∀ b o, s.heap.get? b = some o → hm.get? b = some o) → p = hm.objs.size → (∀ b o, s.heap.get? b = some o → h'.get? b = some o) → h'.get? p = some (seqObj "list" out.toArray n) → Vals (ys.map V.str) out → ys.Perm (x.cps.toList.map fun c => tx [c]) → sortedS ys = true → Q (.ref p) { s with heap := h', toks := tk }) :
    wpAny (model prog w) A (call (.builtin "sorted") [.str x t]) Q E s := by
  refine Calls.call_function_entry kind_sorted plain_sorted entry_sorted (args_sorted1 _) ?_
  unfold Builtin.«sorted»
  refine wpAny_bind (m := checkCount "sorted" 1 1 _) (wpAny_pure ?_)
  refine wpAny_bind (wpAny_collect_str (A := A.in1) hh x t (fun s' acc kp g1 g2 g3 it => ?_) hx)
  have es : s' = { s with heap := s'.heap, toks := s'.toks } := by
    cases s'; cases s
    simp only at g1 g2 g3
    subst g1 g2 g3
    rfl
  have rel := chars_of it
  have rel2 : Vals ((x.cps.toList.map fun c => tx [c]).map V.str) acc.toList := by rw [List.map_map]; exact rel
  have hL : acc.toList.length ≤ sizeLine := by
    have := rel.length
    rw [List.length_map, Array.length_toList] at this
    have h2 : x.cps.size ≤ sizeLine := hx
    rw [← this]
    exact h2
  refine wpAny_bind (wpAny_newList ?_ hL)
  have hoL : (s'.heap.push (seqObj "list" acc.toList.toArray 0)).get? s'.heap.objs.size = some (seqObj "list" acc.toList.toArray 0) := Heap.get?_push_size _ rfl
  show wpAny _ _ _ _ _ { s' with heap := s'.heap.push (seqObj "list" acc.toList.toArray 0) }
  have hS := rel2.strs
  refine wpAny_bind (wpAny_holding (wpAny_call_entry slot_list_sort ⟨_, hoL, rfl⟩ entry_list_sort (list_sort_treeKAny strKind_oneLt hoL hS.keysOf (fun v₁ v₂ rest e => keyKind_strs (by rw [← e]; exact hS)) hL fun st' hp hs => ⟨_, rfl, ?_⟩) (args_list_sort _)))
  obtain ⟨ss', h1, h2, h3⟩ := sorted_out_str hS hp hs
  obtain ⟨ep, he'⟩ := sortedHeap_at (vs := acc.toList) (out := (arrOf st').map (·.2)) hoL
  refine wpAny_pure ⟨_, rfl, ?_⟩
  have kp2 : ∀ b o, s.heap.get? b = some o → (sortedHeap (s'.heap.push (seqObj "list" acc.toList.toArray 0)) s'.heap.objs.size acc.toList ((arrOf st').map (·.2))).get? b = some o := fun b o q => by
    have q1 := kp b o q
    have lt := Heap.lt_size q1
    rw [sortedHeap_old (Nat.ne_of_lt lt) (by rw [PyProof.Rows.size_push']; exact Nat.lt_succ_of_lt lt)]
    exact Heap.get?_push_of_some _ q1
  have := h s'.heap _ s'.heap.objs.size s'.toks ((arrOf st').map (·.2)).toList ss' ep kp rfl kp2 (by rw [Array.toArray_toList]; exact he') (vals_of_strs h1) h2 h3
  rw [es]
  exact this
end
def rSortedT : List V → Hp → VK → Prop := fun vs H Q => ∃ x : Str, vs = [V.str x] ∧ x.length ≤ sizeLine ∧ ∀ (ys : List Str) (p : Addr), ys.Perm (x.cps.toList.map fun c => tx [c]) → sortedS ys = true → H p = none → Q (.ref p) (upd H p (.lst (ys.map V.str)))
section
variable {X : Cx} {K : PySem.W.Frag}
theorem cr_sortedT (hc : X.calm = true) : CallR X (.builtin "sorted") rSortedT := by
  intro pins s σ H vs us Q I r h
  obtain ⟨x, rfl, hx, q⟩ := h
  obtain ⟨u, rfl, ⟨t, rfl⟩⟩ := vals1 r
  refine sorted_text (I.ok.hd hc) hx fun hm h' p tk out ys n k1 hp kp ho rv pm so => ?_
  have hlen : (ys.map V.str).length ≤ sizeLine := by
    rw [List.length_map, pm.length_eq]
    simpa [Str.length] using hx
  have hn : H p = none := by rw [hp]; exact (I.hok.kept k1).fresh (Nat.le_refl _)
  have hg : s.heap.get? p = none := by
    cases e : s.heap.get? p with
    | none => rfl
    | some o => exact absurd (Heap.lt_size (k1 _ _ e)) (by rw [hp]; exact Nat.lt_irrefl _)
  exact ⟨.ref p, upd H p (.lst (ys.map V.str)), I.laidN (t' := tk) kp hg hn ⟨hlen, out, n, rv, ho⟩, rfl, q ys p pm so hn⟩
def sortTP : List PyData → Option (List PyData)
  | [.str x] => if x.length ≤ sizeLine then some ((sortS (x.cps.toList.map fun c => tx [c])).map .str) else none
  | _ => none
theorem pn_sortT : PureN K rSortedT sortTP := by
  intro L H vs xs ds Q w0 e k
  unfold sortTP at e
  split at e
  · rename_i x
    obtain ⟨v, rfl, w⟩ := w0.one
    cases w
    split at e
    · rename_i hl
      cases e
      refine ⟨x, rfl, hl, fun ys p hp hs np => ?_⟩
      rw [sortS_one hp hs]
      exact k p _ np (trs_strs _)
    · cases e
  · cases e
def sortR (xs : List PyData) : Option (List PyData) := (sortQ xs).or (sortTP xs)
theorem call_sortR (hc : X.calm = true) : CallR X (.builtin "sorted") (fun vs H Q => (rSortedI X.K vs H Q ∨ rSortedS X.K vs H Q) ∨ rSortedT vs H Q) := call_sortQ.or (cr_sortedT hc)
theorem pn_sortR : PureN K (fun vs H Q => (rSortedI K vs H Q ∨ rSortedS K vs H Q) ∨ rSortedT vs H Q) sortR := pn_sortQ.or pn_sortT
end
end DL
set_option Elab.async false
set_option linter.all false
set_option maxRecDepth 100000
set_option maxHeartbeats 2000000
set_option autoImplicit false
namespace DL
open PySem PySem.Spec L2
open PyProof.Rows hiding St
/-! evaluation of mirrors -/
section
variable {α β : Type} {h h' : Hd} {S : DS}
theorem bd_ok {m : M α} {f : α → M β} {a : α} (e : m h = some (.ok a h')) : bd m f h = f a h' := by simp [bd, e]
@[simp] theorem bd_ret {f : α → M β} {a : α} : bd (ret a) f = f a := rfl
@[simp] theorem ret_ok {a : α} : ret a h = some (.ok a h) := rfl
@[simp] theorem opt_some {a : α} : opt (some a) = ret a := rfl
@[simp] theorem rd_t {d : PyData} : rd (.t d) = ret d := rfl
@[simp] theorem rdw_t {d : PyData} : rdw (.t d) = ret d := rfl
@[simp] theorem rdw_s {ns : List Int} : rdw (.s ns) = ret (.list (ns.map .int)) := rfl
@[simp] theorem fz_t {d : PyData} : fz (.t d) = ret d := rfl
@[simp] theorem eC_eq {d : D} : eC d S = ret d := rfl
@[simp] theorem rds_nil : rds [] = ret [] := rfl
@[simp] theorem rds_cons {d : PyData} {ds : List D} : rds (.t d :: ds) = bd (rds ds) fun xs => ret (d :: xs) := rfl
@[simp] theorem rdws_nil : rdws [] = ret [] := rfl
@[simp] theorem rdws_cons {d : PyData} {ds : List D} : rdws (.t d :: ds) = bd (rdws ds) fun xs => ret (d :: xs) := rfl
@[simp] theorem fzs_nil : fzs [] = ret [] := rfl
@[simp] theorem fzs_cons {d : PyData} {ds : List D} : fzs (.t d :: ds) = bd (fzs ds) fun xs => ret (d :: xs) := rfl
@[simp] theorem aNil_eq : aNil S = ret [] := rfl
@[simp] theorem tYes_eq : tYesD S = ret true := rfl
@[simp] theorem mk_f {ds : List PyData} : mk false ds = ret (.t (.list ds)) := rfl
theorem eVar_at {i : Nat} {d : D} (e : S[i]? = some (some d)) : eVar i S = ret d := by simp [eVar, e]
theorem sB_ok {m : DS → M α} {k : α → SM} {a : α} (e : m S h = some (.ok a h')) : sB m k S h = k a S h' := by simp [sB, e]
theorem sSeq_nx {a b : SM} {S' : DS} (e : a S h = some (.nx, S', h')) : sSeq a b S h = b S' h' := by simp [sSeq, e]
theorem sSeq_rt {a b : SM} {S' : DS} {d : D} (e : a S h = some (.rt d, S', h')) : sSeq a b S h = some (.rt d, S', h') := by simp [sSeq, e]
/-- one item of a list comprehension -/
def lcE (f : PyData → DS → Option DS) (t : DS → M Bool) (e : DS → M D) (own : List Nat) (S : DS) (d : PyData) : M (Option PyData) := match f d (wipeD S own) with
  | none => fail
  | some S1 => bd (t S1) fun b => match b with
    | true => bd (e S1) fun y => bd (fz y) fun z => ret (some z)
    | false => ret none
theorem set_end {x y : Cell} : ∀ {l : Hd}, (l ++ [x]).set l.length y = l ++ [y] := by
  intro l; induction l <;> simp_all
theorem lcL_step {f : PyData → DS → Option DS} {t : DS → M Bool} {e : DS → M D} {own : List Nat} {d : PyData} {ds acc : List PyData} {o : Option PyData} (he : lcE f t e own S d h = some (.ok o (h' ++ [.lst acc]))) (ha : acc.length < sizeLine) :
    lcL f t e own S h'.length (d :: ds) h = lcL f t e own S h'.length ds (h' ++ [.lst (acc ++ o.toList)]) := by
  unfold lcE at he
  conv => lhs; unfold lcL
  cases e1 : f d (wipeD S own) with
  | none => simp [e1, fail] at he
  | some S1 =>
    simp only [e1] at he ⊢
    cases e2 : t S1 h with
    | none => simp [bd, e2] at he
    | some r => cases r with
      | err c p h2 => simp [bd, e2] at he
      | ok b h2 =>
        rw [bd_ok e2] at he ⊢
        cases b with
        | false => simp at he; obtain ⟨rfl, rfl⟩ := he; simp
        | true =>
          simp only at he ⊢
          cases e3 : e S1 h2 with
          | none => simp [bd, e3] at he
          | some r => cases r with
            | err c p h3 => simp [bd, e3] at he
            | ok y h3 =>
              rw [bd_ok e3] at he ⊢
              cases e4 : fz y h3 with
              | none => simp [bd, e4] at he
              | some r => cases r with
                | err c p h4 => simp [bd, e4] at he
                | ok z h4 =>
                  rw [bd_ok e4] at he ⊢
                  simp at he
                  obtain ⟨rfl, rfl⟩ := he
                  simp [bd, getC, setC, ha, set_end]
theorem lcL_pure {γ : Type} {f : PyData → DS → Option DS} {t : DS → M Bool} {e : DS → M D} {own : List Nat} {enc : γ → PyData} {φ : γ → Option PyData} : ∀ (xs : List γ) (acc : List PyData), acc.length + xs.length ≤ sizeLine → (∀ x ∈ xs, ∀ acc, lcE f t e own S (enc x) (h ++ [.lst acc]) = some (.ok (φ x) (h ++ [.lst acc]))) →
    lcL f t e own S h.length (xs.map enc) (h ++ [.lst acc]) = some (.ok () (h ++ [.lst (acc ++ xs.filterMap φ)]))
  | [], acc, _, _ => by simp [lcL]
  | x :: xs, acc, hl, hs => by
    rw [List.map_cons, lcL_step (hs x (by simp) acc) (by simp at hl; omega), lcL_pure xs _ (by cases φ x <;> simp at hl ⊢ <;> omega) (fun y hy => hs y (by simp [hy]))]
    cases e : φ x <;> simp [e]
theorem lc_pure {γ : Type} {m : DS → M (List PyData)} {f : PyData → DS → Option DS} {t : DS → M Bool} {e : DS → M D} {own : List Nat} {xs : List γ} {enc : γ → PyData} (φ : γ → Option PyData) (hm : m S h = some (.ok (xs.map enc) h)) (hl : xs.length ≤ sizeLine) (hs : ∀ x ∈ xs, ∀ acc, lcE f t e own S (enc x) (h ++ [.lst acc]) = some (.ok (φ x) (h ++ [.lst acc]))) :
    dLc false m f t e own S h = some (.ok (.t (.list (xs.filterMap φ))) h) := by
  unfold dLc
  rw [bd_ok hm]
  unfold lcRun
  rw [lcL_pure xs [] (by simpa using hl) hs]
  simp [lcFin]
/-- ranges -/
theorem lc_rng {m : DS → M (List PyData)} {f : PyData → DS → Option DS} {t : DS → M Bool} {e : DS → M D} {own : List Nat} {lo : Int} {n : Nat} (φ : Nat → Option PyData) (hm : m S h = some (.ok (rngD lo n) h)) (hl : n ≤ sizeLine) (hs : ∀ i, i < n → ∀ acc, lcE f t e own S (.int (lo + (i : Int))) (h ++ [.lst acc]) = some (.ok (φ i) (h ++ [.lst acc]))) :
    dLc false m f t e own S h = some (.ok (.t (.list ((List.range n).filterMap φ))) h) :=
  lc_pure (enc := fun i : Nat => .int (lo + (i : Int))) φ hm (by simpa using hl) fun i hi => hs i (by simpa using hi)
theorem lc_rngM {m : DS → M (List PyData)} {f : PyData → DS → Option DS} {t : DS → M Bool} {e : DS → M D} {own : List Nat} {lo : Int} {n : Nat} (φ : Nat → PyData) (hm : m S h = some (.ok (rngD lo n) h)) (hl : n ≤ sizeLine) (hs : ∀ i, i < n → ∀ acc, lcE f t e own S (.int (lo + (i : Int))) (h ++ [.lst acc]) = some (.ok (some (φ i)) (h ++ [.lst acc]))) :
    dLc false m f t e own S h = some (.ok (.t (.list ((List.range n).map φ))) h) := by
  rw [lc_rng (fun i => some (φ i)) hm hl hs]
  simp [List.filterMap_eq_map]
/-- a walk that changes things -/
theorem lcL_inv {f : PyData → DS → Option DS} {t : DS → M Bool} {e : DS → M D} {own : List Nat} {I : Nat → Hd → Prop} {G : PyData → Prop} {k N : Nat} : ∀ (xs : List PyData) (i : Nat) (h : Hd) (acc : List PyData), i + xs.length ≤ N → h.length = k → acc.length + xs.length ≤ sizeLine → I i h → (∀ x ∈ acc, G x) → (∀ x ∈ xs, ∀ i h acc, i < N → h.length = k → I i h → ∃ y h', lcE f t e own S x (h ++ [.lst acc]) = some (.ok (some y) (h' ++ [.lst acc])) ∧ G y ∧ I (i + 1) h' ∧ h'.length = k) →
    ∃ ys h', lcL f t e own S k xs (h ++ [.lst acc]) = some (.ok () (h' ++ [.lst ys])) ∧ ys.length = acc.length + xs.length ∧ (∀ y ∈ ys, G y) ∧ I (i + xs.length) h' ∧ h'.length = k
  | [], i, h, acc, _, hk, _, hi, hg, _ => ⟨acc, h, by simp [lcL], by simp, hg, hi, hk⟩
  | x :: xs, i, h, acc, hN, hk, hl, hi, hg, hs => by
    have hN' : i + (xs.length + 1) ≤ N := by simpa using hN
    obtain ⟨y, h1, e1, g1, i1, k1⟩ := hs x (by simp) i h acc (by omega) hk hi
    have hl' : acc.length + (xs.length + 1) ≤ sizeLine := by simpa using hl
    obtain ⟨ys, h2, e2, l2, g2, i2, k2⟩ := lcL_inv xs (i + 1) h1 (acc ++ [y]) (by omega) k1 (by simp; omega) i1 (by intro z hz; rcases List.mem_append.mp hz with q | q; exact hg z q; rw [List.mem_singleton] at q; exact q ▸ g1) (fun z hz => hs z (by simp [hz]))
    refine ⟨ys, h2, ?_, by simp at l2 ⊢; omega, g2, by rw [List.length_cons, ← Nat.add_assoc, Nat.add_right_comm]; exact i2, k2⟩
    rw [← k1, lcL_step e1 (by omega), k1]
    exact e2
theorem lc_inv {m : DS → M (List PyData)} {f : PyData → DS → Option DS} {t : DS → M Bool} {e : DS → M D} {own : List Nat} {xs : List PyData} (I : Nat → Hd → Prop) (G : PyData → Prop) (hm : m S h = some (.ok xs h')) (hl : xs.length ≤ sizeLine) (hi : I 0 h') (hs : ∀ x ∈ xs, ∀ i h1 acc, i < xs.length → h1.length = h'.length → I i h1 → ∃ y h2, lcE f t e own S x (h1 ++ [.lst acc]) = some (.ok (some y) (h2 ++ [.lst acc])) ∧ G y ∧ I (i + 1) h2 ∧ h2.length = h'.length) :
    ∃ ys h2, dLc false m f t e own S h = some (.ok (.t (.list ys)) h2) ∧ ys.length = xs.length ∧ (∀ y ∈ ys, G y) ∧ I xs.length h2 ∧ h2.length = h'.length := by
  obtain ⟨ys, h2, e2, l2, g2, i2, k2⟩ := lcL_inv (I := I) (G := G) (N := xs.length) xs 0 h' [] (by omega) rfl (by simpa using hl) hi (by simp) hs
  refine ⟨ys, h2, ?_, by simpa using l2, g2, by simpa using i2, k2⟩
  unfold dLc
  rw [bd_ok hm]
  unfold lcRun
  rw [e2]
  simp [lcFin, ← k2]
theorem bools_m {γ : Type} (l : List γ) (p : γ → Bool) : boolsP (l.map fun x => .bool (p x)) = some (l.map p) := by
  induction l <;> simp_all [boolsP]
theorem all_map {γ : Type} (l : List γ) (p : γ → Bool) : allP [.list (l.map fun x => .bool (p x))] = some (.bool (l.all p)) := by
  show (boolsP (l.map fun x => .bool (p x))).map (fun bs => PyData.bool (bs.all id)) = _
  rw [bools_m, Option.map_some, List.all_map]
  rfl
theorem any_map {γ : Type} (l : List γ) (p : γ → Bool) : anyP [.list (l.map fun x => .bool (p x))] = some (.bool (l.any p)) := by
  show (boolsP (l.map fun x => .bool (p x))).map (fun bs => PyData.bool (bs.any id)) = _
  rw [bools_m, Option.map_some, List.any_map]
  rfl
end
/-! the mirrors, opened -/
section
variable {α β : Type} {h : Hd} {S : DS} {i j n : Nat} {c : Bool} {ma mb mc : DS → M D} {ms ks : DS → M (List D)} {t tb : DS → M Bool} {a b : SM} {g g' : PyData → PyData → Option PyData} {gl : List PyData → Option PyData} {gn : List PyData → Option (List PyData)} {gu : PyData → Option PyData} {F : List D → M D}
@[simp] theorem x_bd {m : M α} {f : α → M β} : bd m f h = match m h with
  | some (.ok a h') => f a h'
  | some (.err c p h') => some (.err c p h')
  | none => none := rfl
@[simp] theorem x_eVar : eVar i S = match S[i]? with
  | some (some d) => ret d
  | _ => fail := rfl
@[simp] theorem x_aCons : aCons ma ms S = bd (ma S) fun d => bd (ms S) fun ds => ret (d :: ds) := rfl
@[simp] theorem x_dBin : dBin g ma mb S = bd (ma S) fun a => bd (mb S) fun b => bd (rd a) fun x => bd (rd b) fun y => bd (opt (g x y)) fun z => ret (.t z) := rfl
@[simp] theorem x_dIx : dIx g ma mb S = bd (ma S) fun a => bd (mb S) fun b => bd (rdw a) fun x => bd (rdw b) fun y => bd (opt (g x y)) fun z => ret (.t z) := rfl
@[simp] theorem x_dUn : dUn gu ma S = bd (ma S) fun a => bd (rd a) fun x => bd (opt (gu x)) fun z => ret (.t z) := rfl
@[simp] theorem x_dCW : dCW gl ms S = bd (ms S) fun ds => bd (rdws ds) fun xs => bd (opt (gl xs)) fun z => ret (.t z) := rfl
@[simp] theorem x_dCB : dCB gl ms S = bd (ms S) fun ds => bd (rds ds) fun xs => bd (opt (gl xs)) fun z => ret (.t z) := rfl
@[simp] theorem x_dCN : dCN c gn ms S = bd (ms S) fun ds => bd (rdws ds) fun xs => bd (opt (gn xs)) fun z => mk c z := rfl
@[simp] theorem x_dLst : dLst c ms S = bd (ms S) fun ds => bd (fzs ds) fun xs => if xs.length ≤ sizeLine then mk c xs else fail := rfl
@[simp] theorem x_dTup : dTup ms S = bd (ms S) fun ds => bd (fzs ds) fun xs => if xs.length ≤ sizeLine then ret (.t (.tuple xs)) else fail := rfl
@[simp] theorem x_tAnd : tAndD t tb S = bd (t S) fun c => match c with
  | true => tb S
  | false => ret false := rfl
@[simp] theorem x_tOr : tOrD t tb S = bd (t S) fun c => match c with
  | true => ret true
  | false => tb S := rfl
@[simp] theorem x_tNot : tNotD t S = bd (t S) fun c => ret (!c) := rfl
@[simp] theorem x_dTru : dTru ma S = bd (ma S) fun d => bd (rd d) fun x => opt (truP x) := rfl
@[simp] theorem x_dTest : dTest ma S = bd (ma S) fun d => match d with
  | .t (.bool b) => ret b
  | _ => fail := rfl
@[simp] theorem x_dIf : dIf t ma mb S = bd (t S) fun c => match c with
  | true => ma S
  | false => mb S := rfl
@[simp] theorem x_dAnd : dAnd ma mb S = bd (ma S) fun a => match a with
  | .t (.bool true) => mb S
  | .t (.bool false) => ret (.t (.bool false))
  | _ => fail := rfl
@[simp] theorem x_dOr : dOr ma mb S = bd (ma S) fun a => match a with
  | .t (.bool true) => ret (.t (.bool true))
  | .t (.bool false) => mb S
  | _ => fail := rfl
@[simp] theorem x_dNot : dNot ma S = bd (ma S) fun a => match a with
  | .t (.bool b) => ret (.t (.bool (!b)))
  | _ => fail := rfl
@[simp] theorem x_dChain : dChain g g' ma mb mc S = bd (ma S) fun a => bd (mb S) fun b => bd (rd a) fun x => bd (rd b) fun y => bd (opt (g x y)) fun z => match z with
  | .bool true => bd (mc S) fun c => bd (rd b) fun y' => bd (rd c) fun w => bd (opt (g' y' w)) fun u => ret (.t u)
  | .bool false => ret (.t (.bool false))
  | _ => fail := rfl
@[simp] theorem x_dCall : dCall F ms S = bd (ms S) F := rfl
@[simp] theorem x_dCallK {g : List D → List D → List D} : dCallK F g ms ks S = bd (ms S) fun a => bd (ks S) fun b => F (g a b) := rfl
@[simp] theorem x_oNone : oNone S = ret none := rfl
@[simp] theorem x_oSome : oSome ma S = bd (ma S) fun d => match d with
  | .t (.int i) => ret (some i)
  | _ => fail := rfl
@[simp] theorem x_dSl {ml mh : DS → M (Option Int)} : dSl c ma ml mh S = bd (ma S) fun a => bd (ml S) fun lo => bd (mh S) fun hi => bd (rdw a) fun x => slM c x lo hi := rfl
@[simp] theorem x_dRev : dRev c ma S = bd (ma S) fun a => bd (rdw a) fun x => match x with
  | .list ds => mk c ds.reverse
  | _ => fail := rfl
@[simp] theorem x_dCat : dCat c ma mb S = bd (ma S) fun a => bd (mb S) fun b => bd (rd a) fun x => bd (rd b) fun y => match x, y with
  | .list xs, .list ys => if xs.length + ys.length ≤ sizeLine then mk c (xs ++ ys) else fail
  | _, _ => fail := rfl
@[simp] theorem x_dIsi {T : String} : dIsi T ma S = bd (ma S) fun a => bd (rd a) fun x => ret (.t (.bool (isiB T x))) := rfl
@[simp] theorem x_dM {T : String} {gm : PyData → List PyData → Option PyData} : dM T gm ma ms S = bd (ma S) fun o => bd (rdw o) fun x0 => if tykP T x0 then bd (ms S) fun ds => bd (rdw o) fun x => bd (rdws ds) fun xs => bd (opt (gm x xs)) fun z => ret (.t z) else fail := rfl
@[simp] theorem x_sB {m : DS → M α} {k : α → SM} : sB m k S h = match m S h with
  | some (.ok a h') => k a S h'
  | some (.err c p h') => some (.er c p, S, h')
  | none => none := rfl
@[simp] theorem x_sSeq : sSeq a b S h = match a S h with
  | some (.nx, S', h') => b S' h'
  | x => x := rfl
@[simp] theorem x_sNext : sNext S h = some (.nx, S, h) := rfl
@[simp] theorem x_sRet : sRet ma S h = sB ma (fun d S h => some (.rt d, S, h)) S h := rfl
@[simp] theorem x_sRetN : sRetN S h = some (.rt (.t .none), S, h) := rfl
@[simp] theorem x_sDrop : sDrop ma S h = sB ma (fun _ S h => some (.nx, S, h)) S h := rfl
@[simp] theorem x_sIf : sIf t a b S h = sB t (fun c => match c with
  | true => a
  | false => b) S h := rfl
@[simp] theorem x_sSet : sSet i ma S h = sB ma (fun d S h => some (.nx, S.set i (some d), h)) S h := rfl
@[simp] theorem x_sPar : sPar i j ms S h = sB ms (fun ds S h => match ds with
  | [a, b] => some (.nx, (S.set i (some a)).set j (some b), h)
  | _ => none) S h := rfl
@[simp] theorem x_runF {gg : SM} {ds : List D} : runF c n gg ds h = (gg (startD n ds) h).bind (finD c h.length) := rfl
@[simp] theorem x_startD {ds : List D} : startD n ds = ds.map some ++ List.replicate (n - ds.length) none := rfl
@[simp] theorem x_opt {o : Option α} : opt o h = match o with
  | some a => some (.ok a h)
  | none => none := rfl
@[simp] theorem x_rg1 : iRg1 ms S = bd (ms S) fun ds => match ds with
  | [.t (.int j)] => if inR j then ret (rngD 0 j.toNat) else fail
  | _ => fail := rfl
@[simp] theorem x_rg2 : iRg2 ms S = bd (ms S) fun ds => match ds with
  | [.t (.int i), .t (.int j)] => if inR i && inR j then ret (rngD i (j - i).toNat) else fail
  | _ => fail := rfl
@[simp] theorem x_wipe0 : wipeD S [] = S := rfl
@[simp] theorem x_wipe {v : Nat} {vs : List Nat} : wipeD S (v :: vs) = (wipeD S vs).set v none := rfl
@[simp] theorem x_gN {d : PyData} : gN i d S = some (S.set i (some (.t d))) := rfl
@[simp] theorem x_lcE {f : PyData → DS → Option DS} {t : DS → M Bool} {e : DS → M D} {own : List Nat} {d : PyData} : lcE f t e own S d h = (match f d (wipeD S own) with
  | none => fail
  | some S1 => bd (t S1) fun b => match b with
    | true => bd (e S1) fun y => bd (fz y) fun z => ret (some z)
    | false => ret none) h := rfl
@[simp] theorem x_sFor {m : DS → M (List PyData)} {f : PyData → DS → Option DS} : sFor m f b S h = sB m (fun its => forL f b its) S h := rfl
@[simp] theorem x_fin_rt {d : D} : finD c n (.rt d, S, h) = (outD c n h d).map fun d => .ok d.1 d.2 := rfl
@[simp] theorem x_fin_nx : finD c n (.nx, S, h) = some (.ok (.t .none) (h.take n)) := rfl
@[simp] theorem x_out_t {d : PyData} : outD c n h (.t d) = some (.t d, h.take n) := rfl
@[simp] theorem x_tupP {ds : List PyData} : tupP [.list ds] = some (.tuple ds) := rfl
@[simp] theorem x_isi {T : String} {d : PyData} : isiB T d = (tyP d == T || (T == "int" && tyP d == "bool")) := rfl
@[simp] theorem x_ty1 : tyP .none = "NoneType" := rfl
@[simp] theorem x_ty2 {b : Bool} : tyP (.bool b) = "bool" := rfl
@[simp] theorem x_ty3 {b : Int} : tyP (.int b) = "int" := rfl
@[simp] theorem x_ty4 {b : Str} : tyP (.str b) = "str" := rfl
@[simp] theorem x_ty5 {b : List PyData} : tyP (.list b) = "list" := rfl
@[simp] theorem x_ty6 {b : List PyData} : tyP (.tuple b) = "tuple" := rfl
@[simp] theorem x_ty7 {b : List (PyData × PyData)} : tyP (.dict b) = "dict" := rfl
@[simp] theorem x_sl : sizeLine = 16777216 := rfl
theorem x_inR {i : Int} : DL.inR i = decide (-4611686018427387904 ≤ i ∧ i < 4611686018427387904) := rfl
theorem rg1_h {j : Int} {n : Nat} {h : Hd} (e : j.toNat = n) (l : -4611686018427387904 ≤ j) (u : j < 4611686018427387904) : (if -4611686018427387904 ≤ j ∧ j < 4611686018427387904 then ret (rngD 0 j.toNat) else fail) h = some (.ok (rngD 0 n) h) := by
  rw [if_pos ⟨l, u⟩, e]; rfl
@[simp] theorem mk_t {ds : List PyData} {h : Hd} : mk true ds h = some (.ok (.c h.length) (h ++ [.lst ds])) := rfl
@[simp] theorem x_dRep : dRep c ma mb S = bd (ma S) fun a => bd (mb S) fun b => bd (rd a) fun x => bd (rd b) fun y => match x, y with
  | .list xs, .int n => if okI n && decide (xs.length * n.toNat ≤ sizeLine) then mk c (List.replicate n.toNat xs).flatten else fail
  | _, _ => fail := rfl
theorem x_okI {i : Int} : okI i = decide (-9223372036854775808 ≤ i ∧ i < 9223372036854775808) := rfl
@[simp] theorem x_sSub {mo mi me : DS → M D} : sSub mo mi me S h = sB me (fun d => sB (fun _ => fz d) fun z => sB mo fun o => sB mi fun i => sB (fun _ => stIx o i z) fun _ S h => some (.nx, S, h)) S h := rfl
@[simp] theorem x_out_c {ds : List PyData} {h : Hd} : outD false h.length (h ++ [.lst ds]) (.c h.length) = some (.t (.list ds), h) := by simp [outD]
theorem x_out_cc {ds : List PyData} {h : Hd} : outD true h.length (h ++ [.lst ds]) (.c h.length) = some (.c h.length, h ++ [.lst ds]) := by simp [outD]
@[simp] theorem x_getC {ds : List PyData} {h : Hd} : getC h.length (h ++ [.lst ds]) = some (.ok ds (h ++ [.lst ds])) := by simp [getC]
@[simp] theorem x_setC {ds es : List PyData} {h : Hd} : setC h.length es (h ++ [.lst ds]) = some (.ok () (h ++ [.lst es])) := by simp [setC]
theorem stIx_at {ds : List PyData} {h : Hd} {n j : Nat} {z : PyData} (hn : h[n]? = some (.lst ds)) (hj : j < ds.length) : stIx (.c n) (.t (.int (j : Nat))) z h = some (.ok () (h.set n (.lst (ds.set j z)))) := by
  have h' : (j : Int) < ds.length := by omega
  simp [stIx, bd, getC, hn, ixN, h', setC]
theorem stIx_end {ds : List PyData} {h : Hd} {j : Nat} {z : PyData} (hj : j < ds.length) : stIx (.c h.length) (.t (.int (j : Nat))) z (h ++ [.lst ds]) = some (.ok () (h ++ [.lst (ds.set j z)])) := by
  rw [stIx_at (ds := ds) (by simp) hj, set_end]
@[simp high] theorem inR_nat {k : Nat} : DL.inR (k : Int) = decide (k < 4611686018427387904) := by
  unfold DL.inR
  rw [decide_eq_decide]
  constructor <;> intro h <;> omega
@[simp high] theorem inR_nat1 {k : Nat} : DL.inR ((k : Int) + 1) = decide (k < 4611686018427387903) := by
  unfold DL.inR
  rw [decide_eq_decide]
  constructor <;> intro h <;> omega
@[simp high] theorem okI_nat {k : Nat} : okI (k : Int) = decide (k < 9223372036854775808) := by
  unfold okI
  rw [decide_eq_decide]
  constructor <;> intro h <;> omega
theorem rg2_h {i j : Int} {n : Nat} {h : Hd} (e : (j - i).toNat = n) (l1 : -4611686018427387904 ≤ i) (u1 : i < 4611686018427387904) (l : -4611686018427387904 ≤ j) (u : j < 4611686018427387904) : (if (-4611686018427387904 ≤ i ∧ i < 4611686018427387904) ∧ -4611686018427387904 ≤ j ∧ j < 4611686018427387904 then ret (rngD i (j - i).toNat) else fail) h = some (.ok (rngD i n) h) := by
  rw [if_pos ⟨⟨l1, u1⟩, l, u⟩, e]; rfl
@[simp] theorem x_dApp {mo me : DS → M D} : dApp mo me S = bd (mo S) fun o => match o with
  | .c n => bd (getC n) fun _ => bd (me S) fun v => bd (fz v) fun z => bd (getC n) fun ds => if ds.length < sizeLine then bd (setC n (ds ++ [z])) fun _ => ret (.t .none) else fail
  | _ => fail := rfl
@[simp] theorem x_neg_i {i : Int} : negP (.int i) = some (.int (-i)) := rfl
@[simp] theorem x_add_l {a b : List PyData} : addP (.list a) (.list b) = if a.length + b.length ≤ sizeLine then some (.list (a ++ b)) else none := rfl
@[simp] theorem x_add_t {a b : List PyData} : addP (.tuple a) (.tuple b) = if a.length + b.length ≤ sizeLine then some (.tuple (a ++ b)) else none := rfl
@[simp] theorem x_mod_i {i j : Int} : modP (.int i) (.int j) = if 0 < j then some (.int (i % j)) else none := rfl
@[simp] theorem x_fdiv_i {i j : Int} : fdivP (.int i) (.int j) = if 0 < j ∧ j.natAbs.log2 < 9000 then some (.int (i / j)) else none := rfl
@[simp] theorem x_pow_i {i j : Int} : powP (.int i) (.int j) = if 0 ≤ j ∧ (Builtin.Int.intBits i : Int) * j ≤ 2 ^ 27 then some (.int (i ^ j.toNat)) else none := rfl
@[simp] theorem x_abs_i {i : Int} : absP [.int i] = some (.int (if i < 0 then -i else i)) := rfl
@[simp] theorem x_max_i {i j : Int} : maxP [.int i, .int j] = some (.int (if j > i then j else i)) := rfl
@[simp] theorem x_min_i {i j : Int} : minP [.int i, .int j] = some (.int (if j < i then j else i)) := rfl
@[simp] theorem x_tup_t {ds : List PyData} : tupP [.tuple ds] = some (.tuple ds) := rfl
theorem bin_at {h h1 h2 : Hd} {a b z : PyData} (ea : ma S h = some (.ok (.t a) h1)) (eb : mb S h1 = some (.ok (.t b) h2)) (e : g a b = some z) : dBin g ma mb S h = some (.ok (.t z) h2) := by
  simp [ea, eb, e]
@[simp] theorem x_tru1 : truP .none = some false := rfl
@[simp] theorem x_tru2 {b : Bool} : truP (.bool b) = some b := rfl
@[simp] theorem x_tru3 {i : Int} : truP (.int i) = some (i != 0) := rfl
@[simp] theorem x_tru4 {x : Str} : truP (.str x) = if x.length ≤ sizeLine then some ((x.length : Int) != 0) else none := rfl
@[simp] theorem x_tru5 {ds : List PyData} : truP (.list ds) = some (!ds.isEmpty) := rfl
@[simp] theorem x_tru6 {ds : List PyData} : truP (.tuple ds) = some (!ds.isEmpty) := rfl
@[simp] theorem x_len_l {ds : List PyData} : lenP [.list ds] = some (.int ds.length) := rfl
@[simp] theorem x_len_s {x : Str} : lenP [.str x] = if x.length ≤ sizeLine then some (.int x.length) else none := rfl
@[simp] theorem x_add_i {i j : Int} : addP (.int i) (.int j) = some (.int (i + j)) := rfl
@[simp] theorem x_add_s {a b : Str} : addP (.str a) (.str b) = if a.length + b.length ≤ sizeLine then some (.str (a ++ b)) else none := rfl
@[simp] theorem x_sub_i {i j : Int} : subP (.int i) (.int j) = some (.int (i - j)) := rfl
@[simp] theorem x_mul_i {i j : Int} : mulP (.int i) (.int j) = if i.natAbs.log2 + j.natAbs.log2 < 1000000 then some (.int (i * j)) else none := rfl
@[simp] theorem x_mul_s {x : Str} {n : Int} : mulP (.str x) (.int n) = if okI n && decide (x.length * n.toNat ≤ sizeLine) then some (.str (repS x n.toNat)) else none := rfl
@[simp] theorem x_lt_i {i j : Int} : ltP (.int i) (.int j) = some (.bool (decide (i < j))) := rfl
@[simp] theorem x_gt_i {i j : Int} : gtP (.int i) (.int j) = some (.bool (decide (j < i))) := rfl
@[simp] theorem x_le_i {i j : Int} : leP (.int i) (.int j) = some (.bool (decide (i ≤ j))) := rfl
@[simp] theorem x_ge_i {i j : Int} : geP (.int i) (.int j) = some (.bool (decide (j ≤ i))) := rfl
@[simp] theorem x_int_i {i : Int} : intP [.int i] = some (.int i) := rfl
@[simp] theorem x_int_b {b : Bool} : intP [.bool b] = some (.int (if b then 1 else 0)) := rfl
@[simp] theorem x_ix_l {ds : List PyData} {i : Int} : ixP (.list ds) (.int i) = atI ds i := rfl
@[simp] theorem x_ix_t {ds : List PyData} {i : Int} : ixP (.tuple ds) (.int i) = atI ds i := rfl
@[simp] theorem x_ix_s {x : Str} {i : Int} : ixP (.str x) (.int i) = if x.length ≤ sizeLine then (atI x.cps.toList i).map fun c => .str (tx [c]) else none := rfl
@[simp] theorem x_sl_s {z : Str} {lo hi : Option Int} : slM c (.str z) lo hi = if z.length ≤ sizeLine then ret (.t (.str (cutS z lo hi))) else fail := rfl
@[simp] theorem x_isb {a b : Bool} : isP (.bool a) (.bool b) = some (.bool (decide (a = b))) := rfl
@[simp] theorem x_isnb {a b : Bool} : isNotP (.bool a) (.bool b) = some (.bool (!decide (a = b))) := rfl
end
end DL
set_option Elab.async false
set_option linter.all false
set_option maxRecDepth 100000
set_option maxHeartbeats 2000000
set_option autoImplicit false
namespace DL
open PySem PySem.Spec L2
open PyProof.Rows hiding St
@[simp] theorem x_dRevA {c : Bool} {ma : DS → M D} {S : DS} : dRevA c ma S = bd (ma S) fun a => bd (rdw a) fun x => match x with
  | .list ds => mk c ds.reverse
  | .tuple ds => ret (.t (.tuple ds.reverse))
  | .str z => if z.length ≤ sizeLine then ret (.t (.str (tx z.cps.toList.reverse))) else fail
  | _ => fail := rfl
end DL
set_option Elab.async false
set_option linter.all false
set_option maxRecDepth 100000
set_option maxHeartbeats 2000000
set_option autoImplicit false
namespace LT
/-! the least turn of a row, in plain lists -/
def cc (w : List Nat) (x : Nat) : Nat := w.getD (x % w.length) 0
def rot (w : List Nat) (x : Nat) : List Nat := (List.range w.length).map fun t => cc w (x + t)
theorem rot_len (w : List Nat) (x : Nat) : (rot w x).length = w.length := by simp [rot]
theorem rot_get (w : List Nat) (x t : Nat) (h : t < (rot w x).length) : (rot w x)[t] = cc w (x + t) := by simp [rot]
theorem cc_mod (w : List Nat) (x : Nat) : cc w (x % w.length) = cc w x := by simp [cc]
theorem rot_mod (w : List Nat) (x : Nat) : rot w (x % w.length) = rot w x := by
  unfold rot
  apply List.map_congr_left
  intro t _
  simp [cc, Nat.add_mod]
/-- the first of the least turns -/
def Fst (w : List Nat) (m : Nat) : Prop := m < w.length ∧ (∀ x, x < w.length → ¬ rot w x < rot w m) ∧ ∀ x, x < m → rot w x ≠ rot w m
theorem rot_lt {w : List Nat} {i j k : Nat} (hk : k < w.length) (he : ∀ t, t < k → cc w (i + t) = cc w (j + t)) (hl : cc w (i + k) < cc w (j + k)) : rot w i < rot w j := by
  rw [List.lt_iff_exists]
  right
  refine ⟨k, by simp [rot, hk], by simp [rot, hk], fun t ht => ?_, ?_⟩
  · simp [rot, he t ht]
  · simp [rot, hl]
/-- the same ahead of it -/
theorem rot_lt_at {w : List Nat} {i j k t : Nat} (hk : k < w.length) (he : ∀ t, t < k → cc w (i + t) = cc w (j + t)) (hl : cc w (i + k) < cc w (j + k)) (ht : t ≤ k) : rot w (i + t) < rot w (j + t) := by
  refine rot_lt (k := k - t) (by omega) (fun s hs => ?_) ?_
  · have := he (t + s) (by omega)
    rwa [← Nat.add_assoc, ← Nat.add_assoc] at this
  · rwa [Nat.add_assoc, Nat.add_assoc, show t + (k - t) = k by omega]
theorem not_fst {w : List Nat} {m x : Nat} (h : Fst w m) (hl : rot w x < rot w m) : False := by
  have h0 : 0 < w.length := by have := h.1; omega
  exact h.2.1 (x % w.length) (Nat.mod_lt _ h0) (by rwa [rot_mod])
/-- what holds at each turn -/
def Iv (w : List Nat) (m i j k : Nat) : Prop := i < j ∧ (m = i ∨ j ≤ m) ∧ k ≤ w.length ∧ ∀ t, t < k → cc w (i + t) = cc w (j + t)
theorem iv_eq {w : List Nat} {m i j k : Nat} (h : Iv w m i j k) (hk : k < w.length) (e : cc w (i + k) = cc w (j + k)) : Iv w m i j (k + 1) :=
  ⟨h.1, h.2.1, hk, fun t ht => by
    by_cases q : t = k
    · exact q ▸ e
    · exact h.2.2.2 t (by omega)⟩
theorem iv_gt {w : List Nat} {m i j k : Nat} (f : Fst w m) (h : Iv w m i j k) (hk : k < w.length) (e : cc w (j + k) < cc w (i + k)) : Iv w m (max (i + k + 1) j) (max (i + k + 1) j + 1) 0 := by
  refine ⟨by omega, ?_, by omega, fun t ht => absurd ht (Nat.not_lt_zero _)⟩
  have key : ¬ (i ≤ m ∧ m ≤ i + k) := by
    rintro ⟨h1, h2⟩
    refine not_fst f (x := j + (m - i)) ?_
    have := rot_lt_at (t := m - i) hk (fun t ht => (h.2.2.2 t ht).symm) e (by omega)
    rwa [show i + (m - i) = m by omega] at this
  rcases h.2.1 with q | q
  · exact absurd ⟨by omega, by omega⟩ key
  · have := h.1
    by_cases r : m ≤ i + k
    · exact absurd ⟨by omega, r⟩ key
    · omega
theorem iv_lt {w : List Nat} {m i j k : Nat} (f : Fst w m) (h : Iv w m i j k) (hk : k < w.length) (e : cc w (i + k) < cc w (j + k)) : Iv w m i (j + k + 1) 0 := by
  refine ⟨by have := h.1; omega, ?_, by omega, fun t ht => absurd ht (Nat.not_lt_zero _)⟩
  have key : ¬ (j ≤ m ∧ m ≤ j + k) := by
    rintro ⟨h1, h2⟩
    refine not_fst f (x := i + (m - j)) ?_
    have := rot_lt_at (t := m - j) hk h.2.2.2 e (by omega)
    rwa [show j + (m - j) = m by omega] at this
  rcases h.2.1 with q | q
  · exact .inl q
  · right
    by_cases r : m ≤ j + k
    · exact absurd ⟨q, r⟩ key
    · omega
theorem iv_end {w : List Nat} {m i j k : Nat} (f : Fst w m) (h : Iv w m i j k) (e : ¬ (i < w.length ∧ j < w.length ∧ k < w.length)) : i = m := by
  have hm := f.1
  have hij := h.1
  rcases h.2.1 with q | q
  · exact q.symm
  · have hk : k = w.length := by have := h.2.2.1; omega
    -- the turns at i and j are one
    exfalso
    have all : ∀ t, cc w (i + t) = cc w (j + t) := fun t => by
      have h0 : 0 < w.length := by omega
      have h1 := h.2.2.2 (t % w.length) (by rw [hk]; exact Nat.mod_lt _ h0)
      have aux : ∀ x, cc w (x + t % w.length) = cc w (x + t) := fun x => by
        rw [← cc_mod w (x + t % w.length), ← cc_mod w (x + t)]
        congr 1
        simp [Nat.add_mod]
      rwa [aux, aux] at h1
    refine f.2.2 (m - (j - i)) (by omega) ?_
    unfold rot
    apply List.map_congr_left
    intro t _
    have := all (m - j + t)
    rw [show m - (j - i) + t = i + (m - j + t) by omega, this]
    congr 1
    omega
/-- there is a first of the least -/
theorem fst_ex (w : List Nat) (h : 0 < w.length) : ∃ m, Fst w m := by
  have aux : ∀ n, 0 < n → n ≤ w.length → ∃ m, m < n ∧ (∀ x, x < n → ¬ rot w x < rot w m) ∧ ∀ x, x < m → rot w x ≠ rot w m := by
    intro n
    induction n with
    | zero => intro h; omega
    | succ n ih =>
      intro _ hn
      by_cases h0 : n = 0
      · subst h0
        refine ⟨0, by omega, fun x hx => ?_, fun x hx => absurd hx (Nat.not_lt_zero _)⟩
        have : x = 0 := by omega
        subst this
        exact List.lt_irrefl _
      · obtain ⟨m, h1, h2, h3⟩ := ih (by omega) (by omega)
        by_cases q : rot w n < rot w m
        · refine ⟨n, by omega, fun x hx hl => ?_, fun x hx e => ?_⟩
          · by_cases e : x = n
            · subst e; exact List.lt_irrefl _ hl
            · exact h2 x (by omega) (List.lt_trans hl q)
          · exact h2 x hx (e ▸ q)
        · refine ⟨m, by omega, fun x hx => ?_, h3⟩
          by_cases e : x = n
          · exact e ▸ q
          · exact h2 x (by omega)
  obtain ⟨m, h1, h2, h3⟩ := aux w.length h (Nat.le_refl _)
  exact ⟨m, h1, h2, h3⟩
theorem fst_one {w : List Nat} {m m' : Nat} (a : Fst w m) (b : Fst w m') : m = m' := by
  have e : rot w m = rot w m' := by
    have h1 := a.2.1 m' b.1
    have h2 := b.2.1 m a.1
    exact List.le_antisymm (List.not_lt.mp h1) (List.not_lt.mp h2)
  rcases Nat.lt_trichotomy m m' with q | q | q
  · exact absurd e (b.2.2 m q)
  · exact q
  · exact absurd e.symm (a.2.2 m' q)
end LT
set_option Elab.async false
set_option linter.all false
set_option maxRecDepth 100000
set_option maxHeartbeats 2000000
set_option autoImplicit false
namespace LT
theorem cc_lt {w : List Nat} {x : Nat} (h : x < w.length) : cc w x = w[x] := by
  simp [cc, Nat.mod_eq_of_lt h, h]
theorem rot_eq {w : List Nat} {b : Nat} (h : b ≤ w.length) : rot w b = w.drop b ++ w.take b := by
  apply List.ext_getElem
  · simp [rot]; omega
  · intro i h1 h2
    rw [rot_get]
    have hi : i < w.length := by simpa [rot] using h1
    by_cases q : i < w.length - b
    · rw [List.getElem_append_left (by simp; omega), List.getElem_drop, cc_lt (by omega)]
    · rw [List.getElem_append_right (by simp; omega), List.getElem_take]
      have e : cc w (b + i) = cc w (b + i - w.length) := by
        rw [← cc_mod w (b + i), Nat.mod_eq_sub_mod (by omega), cc_mod]
      rw [e, cc_lt (by omega)]
      congr 1
      simp
      omega
theorem cc_rot {w : List Nat} (h : 0 < w.length) (a x : Nat) : cc (rot w a) x = cc w (a + x) := by
  have hx : x % (rot w a).length < (rot w a).length := Nat.mod_lt _ (by rw [rot_len]; exact h)
  have e : cc (rot w a) x = (rot w a)[x % (rot w a).length] := by simp [cc, hx]
  rw [e, rot_get, rot_len, ← cc_mod w (a + x % w.length), ← cc_mod w (a + x)]
  congr 1
  simp [Nat.add_mod]
theorem rot_rot {w : List Nat} (a b : Nat) : rot (rot w a) b = rot w (a + b) := by
  by_cases h : 0 < w.length
  · unfold rot
    rw [List.length_map, List.length_range]
    apply List.map_congr_left
    intro t _
    have := cc_rot h a (b + t)
    rw [← Nat.add_assoc] at this
    exact this
  · have : w = [] := List.eq_nil_of_length_eq_zero (by omega)
    subst this
    rfl
/-- the least turn itself -/
theorem least_all {w : List Nat} {m : Nat} (f : Fst w m) (x : Nat) : ¬ rot w x < rot w m := fun h => not_fst f h
theorem least_rot {w : List Nat} {a m m' : Nat} (f : Fst w m) (g : Fst (rot w a) m') : rot (rot w a) m' = rot w m := by
  have h0 : 0 < w.length := by have := f.1; omega
  have h1 : ¬ rot (rot w a) m' < rot w m := by
    rw [rot_rot]; exact least_all f _
  have h2 : ¬ rot w m < rot (rot w a) m' := by
    have := least_all g (m + a * (w.length - 1))
    rw [rot_rot] at this
    have e : rot w (a + (m + a * (w.length - 1))) = rot w m := by
      rw [← rot_mod w (a + _), ← rot_mod w m]
      congr 1
      have : a + (m + a * (w.length - 1)) = m + a * w.length := by
        obtain ⟨n, hn⟩ : ∃ n, w.length = n + 1 := ⟨w.length - 1, by omega⟩
        rw [hn, Nat.add_sub_cancel, Nat.mul_succ]
        omega
      rw [this, Nat.add_mul_mod_self_right]
    rwa [e] at this
  exact List.le_antisymm (List.not_lt.mp h2) (List.not_lt.mp h1)
/-! periods -/
def Per (w : List Nat) (d : Nat) : Prop := ∀ i, i + d < w.length → w.getD i 0 = w.getD (i + d) 0
def CPer (w : List Nat) (d : Nat) : Prop := ∀ x, cc w (x + d) = cc w x
theorem cper_mul {w : List Nat} {d : Nat} (h : CPer w d) : ∀ k x, cc w (x + k * d) = cc w x
  | 0, x => by simp
  | k + 1, x => by
    rw [Nat.succ_mul, ← Nat.add_assoc, h, cper_mul h k]
theorem cper_per {w : List Nat} {d : Nat} (h : CPer w d) : Per w d := fun i hi => by
  have := h i
  rw [cc_lt hi, cc_lt (by omega)] at this
  rw [List.getD_eq_getElem?_getD, List.getD_eq_getElem?_getD, List.getElem?_eq_getElem hi, List.getElem?_eq_getElem (show i < w.length by omega)]
  exact this.symm
theorem per_mul {w : List Nat} {d : Nat} (h : Per w d) : ∀ k i, i + k * d < w.length → w.getD i 0 = w.getD (i + k * d) 0
  | 0, i, _ => by simp
  | k + 1, i, hi => by
    rw [Nat.succ_mul, ← Nat.add_assoc] at hi ⊢
    rw [per_mul h k i (by omega), h _ hi]
theorem per_cper {w : List Nat} {d : Nat} (h : Per w d) (hd : d ∣ w.length) (h0 : 0 < w.length) : CPer w d := fun x => by
  obtain ⟨k, hk⟩ := hd
  have hd0 : 0 < d := by
    rcases Nat.eq_zero_or_pos d with q | q
    · subst q; rw [Nat.zero_mul] at hk; omega
    · exact q
  have hk0 : 0 < k := by
    rcases Nat.eq_zero_or_pos k with q | q
    · subst q; rw [Nat.mul_zero] at hk; omega
    · exact q
  have hy := Nat.mod_lt x h0
  have e1 : cc w (x + d) = cc w (x % w.length + d) := by
    rw [← cc_mod w (x + d), ← cc_mod w (x % w.length + d)]
    congr 1
    simp [Nat.add_mod]
  rw [e1, ← cc_mod w x]
  generalize x % w.length = y at hy
  have hdn : d ≤ w.length := by rw [hk]; exact Nat.le_mul_of_pos_right d hk0
  by_cases q : y + d < w.length
  · rw [cc_lt q, cc_lt hy]
    have := h y q
    rw [List.getD_eq_getElem?_getD, List.getD_eq_getElem?_getD, List.getElem?_eq_getElem q, List.getElem?_eq_getElem hy] at this
    exact this.symm
  · have e2 : cc w (y + d) = cc w (y + d - w.length) := by
      rw [← cc_mod w (y + d), Nat.mod_eq_sub_mod (by omega), cc_mod]
    have hz : y + d - w.length < w.length := by omega
    have e3 : y + d - w.length + (k - 1) * d = y := by
      have : (k - 1) * d + d = w.length := by
        rw [hk, Nat.mul_comm d k]
        obtain ⟨j, hj⟩ : ∃ j, k = j + 1 := ⟨k - 1, by omega⟩
        subst hj
        rw [Nat.add_sub_cancel, Nat.succ_mul]
      omega
    have := per_mul h (k - 1) (y + d - w.length) (by rw [e3]; exact hy)
    rw [e3] at this
    rw [e2, cc_lt hz, cc_lt hy]
    rw [List.getD_eq_getElem?_getD, List.getD_eq_getElem?_getD, List.getElem?_eq_getElem hz, List.getElem?_eq_getElem hy] at this
    exact this
/-- the least period around divides the length -/
theorem cper_least {w : List Nat} {d : Nat} (h0 : 0 < w.length) (hd : 0 < d) (h : CPer w d) : ∃ q, 0 < q ∧ q ≤ d ∧ q ∣ w.length ∧ CPer w q := by
  induction d using Nat.strongRecOn with
  | _ d ih =>
    by_cases hm : w.length % d = 0
    · exact ⟨d, hd, Nat.le_refl _, Nat.dvd_of_mod_eq_zero hm, h⟩
    · have hlt := Nat.mod_lt w.length hd
      have h2 : CPer w (w.length % d) := fun x => by
        have e1 : cc w (x + w.length % d + (w.length / d) * d) = cc w (x + w.length % d) := cper_mul h _ _
        have e2 : x + w.length % d + (w.length / d) * d = x + w.length := by
          have := Nat.mod_add_div w.length d
          rw [Nat.mul_comm] at this
          omega
        rw [e2] at e1
        rw [← e1]
        simp [cc]
      obtain ⟨q, a, b, c, e⟩ := ih _ hlt (by omega) h2
      exact ⟨q, a, by omega, c, e⟩
/-- two short periods: their difference is one -/
theorem per_sub {w : List Nat} {p q : Nat} (hp : Per w p) (hq : Per w q) (hpq : p ≤ q) (hl : p + q ≤ w.length) : Per w (q - p) := fun i hi => by
  by_cases h : i + q < w.length
  · rw [hq i h]
    have := hp (i + (q - p)) (by omega)
    rw [this]
    congr 1
    omega
  · -- i is far behind: go p back
    have hi2 : p ≤ i := by omega
    have a := hp (i - p) (by omega)
    rw [show i - p + p = i by omega] at a
    have b := hq (i - p) (by omega)
    rw [← a, b]
    congr 1
    omega
theorem per_gcd {w : List Nat} : ∀ (s p q : Nat), p + q ≤ s → 0 < p → 0 < q → Per w p → Per w q → p + q ≤ w.length → ∃ g, 0 < g ∧ g ∣ p ∧ g ∣ q ∧ Per w g
  | 0, p, q, h, h1, h2, _, _, _ => by omega
  | s + 1, p, q, h, h1, h2, hp, hq, hl => by
    rcases Nat.lt_trichotomy p q with c | c | c
    · obtain ⟨g, g0, gp, gq, gw⟩ := per_gcd s p (q - p) (by omega) h1 (by omega) hp (per_sub hp hq (by omega) hl) (by omega)
      refine ⟨g, g0, gp, ?_, gw⟩
      have := Nat.dvd_add gq gp
      rwa [Nat.sub_add_cancel (by omega)] at this
    · subst c
      exact ⟨p, h1, Nat.dvd_refl _, Nat.dvd_refl _, hp⟩
    · obtain ⟨g, g0, gp, gq, gw⟩ := per_gcd s (p - q) q (by omega) (by omega) h2 (per_sub hq hp (by omega) (by omega)) hq (by omega)
      refine ⟨g, g0, ?_, gq, gw⟩
      have := Nat.dvd_add gp gq
      rwa [Nat.sub_add_cancel (by omega)] at this
/-- the root's length -/
theorem root_is {w : List Nat} {p d : Nat} (hp : Per w p) (p0 : 0 < p) (pmin : ∀ q, 0 < q → Per w q → p ≤ q) (hd : Per w d) (d0 : 0 < d) (hdn : d ∣ w.length) (dlt : d < w.length) : p ∣ w.length := by
  have hpd := pmin d d0 hd
  obtain ⟨k, hk⟩ := hdn
  have h2 : 2 * d ≤ w.length := by
    rcases k with _ | _ | k
    · omega
    · omega
    · rw [hk, Nat.mul_comm d]; exact Nat.mul_le_mul_right d (by omega)
  obtain ⟨g, g0, gp, gd, gw⟩ := per_gcd (p + d) p d (Nat.le_refl _) p0 d0 hp hd (by omega)
  have h3 := pmin g g0 gw
  have h4 := Nat.le_of_dvd p0 gp
  have e : g = p := by omega
  subst e
  exact Nat.dvd_trans gd ⟨k, hk⟩
end LT
set_option Elab.async false
set_option linter.all false
set_option maxRecDepth 100000
set_option maxHeartbeats 2000000
set_option autoImplicit false
namespace LY
open LT
/-! order of lists by places -/
theorem lt_pos : ∀ {a b : List Nat}, a < b → a.length = b.length → ∃ e, e < a.length ∧ (∀ m, m < e → a.getD m 0 = b.getD m 0) ∧ a.getD e 0 < b.getD e 0
  | [], [], h, _ => absurd h (List.lt_irrefl _)
  | [], _ :: _, _, hl => by simp at hl
  | _ :: _, [], _, hl => by simp at hl
  | x :: a, y :: b, h, hl => by
    rw [List.cons_lt_cons_iff] at h
    rcases h with h | ⟨rfl, h⟩
    · exact ⟨0, by simp, fun m hm => absurd hm (Nat.not_lt_zero _), by simpa using h⟩
    · obtain ⟨e, h1, h2, h3⟩ := lt_pos h (by simpa using hl)
      refine ⟨e + 1, by simpa using h1, fun m hm => ?_, by simpa using h3⟩
      cases m with
      | zero => simp
      | succ m => simpa using h2 m (by omega)
theorem pos_lt : ∀ {a b : List Nat} (e : Nat), e < a.length → e < b.length → (∀ m, m < e → a.getD m 0 = b.getD m 0) → a.getD e 0 < b.getD e 0 → a < b
  | [], _, _, h, _, _, _ => by simp at h
  | _ :: _, [], _, _, h, _, _ => by simp at h
  | x :: a, y :: b, 0, _, _, _, h => by
    rw [List.cons_lt_cons_iff]
    exact Or.inl (by simpa using h)
  | x :: a, y :: b, e + 1, h1, h2, h3, h4 => by
    rw [List.cons_lt_cons_iff]
    have h0 : x = y := by simpa using h3 0 (by omega)
    exact Or.inr ⟨h0, pos_lt e (by simpa using h1) (by simpa using h2) (fun m hm => by simpa using h3 (m + 1) (by omega)) (by simpa using h4)⟩
theorem le_pre : ∀ (a b : List Nat), a ≤ a ++ b
  | [], b => by
    rw [List.nil_append, List.le_iff_lt_or_eq]
    cases b with
    | nil => exact Or.inr rfl
    | cons x b => exact Or.inl (List.nil_lt_cons _ _)
  | x :: a, b => by
    rw [List.cons_append, List.cons_le_cons_iff]
    exact Or.inr ⟨rfl, le_pre a b⟩
/-! leading rows -/
def Ld (w : List Nat) : Prop := 0 < w.length ∧ ∀ t, 0 < t → t < w.length → ∃ e, t + e < w.length ∧ (∀ m, m < e → w.getD m 0 = w.getD (t + m) 0) ∧ w.getD e 0 < w.getD (t + e) 0
theorem cc_small {w : List Nat} {x : Nat} (h : x < w.length) : cc w x = w.getD x 0 := by
  unfold cc
  rw [Nat.mod_eq_of_lt h]
theorem ld_rot {w : List Nat} (h : Ld w) : ∀ x, 0 < x → x < w.length → rot w 0 < rot w x := fun x x0 xl => by
  obtain ⟨e, h1, h2, h3⟩ := h.2 x x0 xl
  refine rot_lt (k := e) (by omega) (fun t ht => ?_) ?_
  · rw [cc_small (by omega), cc_small (by omega), Nat.zero_add]
    exact h2 t ht
  · rw [cc_small (by omega), cc_small (by omega), Nat.zero_add]
    exact h3
theorem rot_getD {w : List Nat} {x t : Nat} (h : t < w.length) : (rot w x).getD t 0 = cc w (x + t) := by
  have : t < (rot w x).length := by rw [rot_len]; exact h
  rw [List.getD_eq_getElem?_getD, List.getElem?_eq_getElem this, Option.getD_some, rot_get]
theorem rot_ld {w : List Nat} (h0 : 0 < w.length) (h : ∀ x, 0 < x → x < w.length → rot w 0 < rot w x) : Ld w := by
  have key : ∀ x, 0 < x → x < w.length → ∃ e, e < w.length ∧ (∀ m, m < e → cc w m = cc w (x + m)) ∧ cc w e < cc w (x + e) := fun x x0 xl => by
    obtain ⟨e, h1, h2, h3⟩ := lt_pos (h x x0 xl) (by rw [rot_len, rot_len])
    rw [rot_len] at h1
    refine ⟨e, h1, fun m hm => ?_, ?_⟩
    · have := h2 m hm
      rwa [rot_getD (by omega), rot_getD (by omega), Nat.zero_add] at this
    · rwa [rot_getD (by omega), rot_getD (by omega), Nat.zero_add] at h3
  refine ⟨h0, fun t t0 tl => ?_⟩
  obtain ⟨e, h1, h2, h3⟩ := key t t0 tl
  by_cases q : t + e < w.length
  · refine ⟨e, q, fun m hm => ?_, ?_⟩
    · have := h2 m hm
      rwa [cc_small (by omega), cc_small (by omega)] at this
    · rwa [cc_small (by omega), cc_small (by omega)] at h3
  · exfalso
    have wrap : ∀ m, cc w (t + (w.length - t + m)) = cc w m := fun m => by
      rw [← cc_mod w (t + (w.length - t + m)), ← cc_mod w m]
      congr 1
      rw [show t + (w.length - t + m) = m + w.length by omega, Nat.add_mod_right]
    obtain ⟨e', g1, g2, g3⟩ := key (w.length - t) (by omega) (by omega)
    have b1 : cc w (w.length - t + (e - (w.length - t))) < cc w (e - (w.length - t)) := by
      have := h3
      rw [show e = w.length - t + (e - (w.length - t)) by omega, wrap] at this
      exact this
    have b2 : ∀ m, m < e - (w.length - t) → cc w (w.length - t + m) = cc w m := fun m hm => by
      have := h2 (w.length - t + m) (by omega)
      rwa [wrap] at this
    rcases Nat.lt_trichotomy e' (e - (w.length - t)) with q1 | q1 | q1
    · have := b2 e' q1
      omega
    · subst q1; omega
    · have := g2 _ q1
      omega
theorem ld_drop {w : List Nat} (h : Ld w) {t : Nat} (t0 : 0 < t) (tl : t < w.length) : w < w.drop t := by
  obtain ⟨e, h1, h2, h3⟩ := h.2 t t0 tl
  have g : ∀ m, (w.drop t).getD m 0 = w.getD (t + m) 0 := fun m => by simp [List.getD_eq_getElem?_getD, List.getElem?_drop]
  refine pos_lt e (by omega) (by simp; omega) (fun m hm => ?_) ?_
  · rw [g]; exact h2 m hm
  · rw [g]; exact h3
theorem ld_one (c : Nat) : Ld [c] := ⟨by simp, fun t t0 tl => by simp at tl; omega⟩
/-- the word that goes on after its period by a greater letter -/
theorem ld_ext {x : List Nat} {p : Nat} (p0 : 0 < p) (pl : p < x.length) (hu : Ld (x.take p)) (per : ∀ m, m + 1 < x.length → x.getD m 0 = x.getD (m % p) 0) (gt : x.getD ((x.length - 1) % p) 0 < x.getD (x.length - 1) 0) : Ld x := by
  have hg : ∀ m, m < p → (x.take p).getD m 0 = x.getD m 0 := fun m hm => by simp [List.getD_eq_getElem?_getD, List.getElem?_take, hm]
  have hlen : (x.take p).length = p := by simp; omega
  refine ⟨by omega, fun t t0 tl => ?_⟩
  by_cases r0 : t % p = 0
  · refine ⟨x.length - 1 - t, by omega, fun m hm => ?_, ?_⟩
    · rw [per m (by omega), per (t + m) (by omega), Nat.add_mod, r0, Nat.zero_add, Nat.mod_mod]
    · have e : t + (x.length - 1 - t) = x.length - 1 := by omega
      have e2 : (x.length - 1) % p = (x.length - 1 - t) % p := by
        rw [← e, Nat.add_mod, r0, Nat.zero_add, Nat.mod_mod, e]
      rw [e, per (x.length - 1 - t) (by omega), ← e2]
      exact gt
  · have rp : t % p < p := Nat.mod_lt _ p0
    obtain ⟨e, h1, h2, h3⟩ := hu.2 (t % p) (by omega) (by rw [hlen]; exact rp)
    rw [hlen] at h1
    have h2' : ∀ m, m < e → x.getD m 0 = x.getD (t % p + m) 0 := fun m hm => by
      have := h2 m hm
      rwa [hg m (by omega), hg _ (by omega)] at this
    rw [hg e (by omega), hg _ (by omega)] at h3
    have md : ∀ m, m ≤ e → (t + m) % p = t % p + m := fun m hm => by
      rw [Nat.add_mod, Nat.mod_eq_of_lt (show m < p by omega)]
      exact Nat.mod_eq_of_lt (by omega)
    by_cases q : t + e < x.length - 1
    · refine ⟨e, by omega, fun m hm => ?_, ?_⟩
      · rw [per (t + m) (by omega), md m (by omega)]
        exact h2' m hm
      · rw [per (t + e) (by omega), md e (by omega)]
        exact h3
    · refine ⟨x.length - 1 - t, by omega, fun m hm => ?_, ?_⟩
      · rw [per (t + m) (by omega), md m (by omega)]
        exact h2' m (by omega)
      · have e1 : t + (x.length - 1 - t) = x.length - 1 := by omega
        rw [e1]
        have e2 : (x.length - 1) % p = t % p + (x.length - 1 - t) := by
          rw [← e1, md _ (by omega), e1]
        rw [e2] at gt
        by_cases q2 : x.length - 1 - t < e
        · rw [h2' _ q2]; exact gt
        · have : x.length - 1 - t = e := by omega
          rw [this] at gt ⊢
          omega
/-! factorings -/
structure NF (L : List (List Nat)) (w : List Nat) : Prop where
  all : ∀ u ∈ L, Ld u
  sort : L.Pairwise fun a b => b ≤ a
  flat : L.flatten = w
theorem nf_tail {l : List Nat} {L : List (List Nat)} {w : List Nat} (h : NF (l :: L) w) : NF L L.flatten := ⟨fun u hu => h.all u (by simp [hu]), (List.pairwise_cons.mp h.sort).2, rfl⟩
theorem find_end : ∀ (L : List (List Nat)) (pre u : List Nat), (∀ l ∈ L, l ≠ []) → u <+: pre ++ L.flatten → pre.length < u.length → ∃ l v p2, l ∈ L ∧ v ≠ [] ∧ v <+: l ∧ u = p2 ++ v ∧ pre.length ≤ p2.length
  | [], pre, u, _, h, hl => by
    have := h.length_le
    simp at this
    omega
  | l :: L, pre, u, hn, h, hl => by
    by_cases q : u.length ≤ pre.length + l.length
    · obtain ⟨r, hr⟩ := h
      have e1 : pre = u.take pre.length := by
        have := congrArg (List.take pre.length) hr
        rw [List.take_append_of_le_length (by omega), List.take_append_of_le_length (by omega), List.take_length] at this
        exact this.symm
      refine ⟨l, u.drop pre.length, pre, by simp, ?_, ?_, ?_, Nat.le_refl _⟩
      · intro e
        have := congrArg List.length e
        simp at this
        omega
      · have h2 : u.drop pre.length ++ r = (l :: L).flatten := by
          have := congrArg (List.drop pre.length) hr
          rw [List.drop_append_of_le_length (by omega), List.drop_append_of_le_length (Nat.le_refl _), List.drop_length, List.nil_append] at this
          exact this
        have h3 : u.drop pre.length = ((l :: L).flatten).take (u.length - pre.length) := by
          rw [← h2, List.take_append_of_le_length (by simp), List.take_of_length_le (by simp)]
        rw [h3, List.flatten_cons, List.take_append_of_le_length (by omega)]
        exact List.take_prefix _ _
      · conv => lhs; rw [← List.take_append_drop pre.length u]
        rw [← e1]
    · obtain ⟨l', v, p2, h1, h2, h3, h4, h5⟩ := find_end L (pre ++ l) u (fun x hx => hn x (by simp [hx])) (by rw [List.flatten_cons] at h; rwa [List.append_assoc]) (by simp; omega)
      exact ⟨l', v, p2, by simp [h1], h2, h3, h4, by simp at h5; omega⟩
/-- the first factor is the longest leading row ahead -/
theorem nf_first {l : List Nat} {L : List (List Nat)} {w u : List Nat} (h : NF (l :: L) w) (hu : Ld u) (hp : u <+: w) : u.length ≤ l.length := by
  rcases Nat.lt_or_ge l.length u.length with q | q
  · exfalso
    obtain ⟨l', v, p2, h1, h2, h3, h4, h5⟩ := find_end L l u (fun x hx e => by have := (h.all x (by simp [hx])).1; rw [e] at this; simp at this) (by rw [← h.flat, List.flatten_cons] at hp; exact hp) q
    have l0 := (h.all l (by simp)).1
    have d : u < v := by
      have hv : 0 < v.length := List.length_pos_iff.mpr h2
      have ul : u.length = p2.length + v.length := by rw [h4]; simp
      have := ld_drop hu (t := p2.length) (by omega) (by omega)
      have e : u.drop p2.length = v := by rw [h4]; simp
      rwa [e] at this
    obtain ⟨r, hr⟩ := h3
    have e1 : v ≤ l' := by rw [← hr]; exact le_pre _ _
    have e2 : l' ≤ l := (List.pairwise_cons.mp h.sort).1 l' h1
    have e3 : l ≤ u := by
      obtain ⟨r, hr⟩ := hp
      have : l <+: u := by
        have hw : l <+: w := ⟨L.flatten, by rw [← h.flat, List.flatten_cons]⟩
        exact List.prefix_of_prefix_length_le hw ⟨r, hr⟩ (by omega)
      obtain ⟨r, hr⟩ := this
      rw [← hr]; exact le_pre _ _
    have := List.le_trans e1 (List.le_trans e2 e3)
    exact absurd d (List.not_lt.mpr this)
  · exact q
theorem nf_one : ∀ {L M : List (List Nat)} {w : List Nat}, NF L w → NF M w → L = M
  | [], [], _, _, _ => rfl
  | [], m :: M, w, a, b => by
    have := (b.all m (by simp)).1
    have e := b.flat
    rw [← a.flat, List.flatten_cons] at e
    rw [(List.append_eq_nil_iff.mp e).1] at this
    simp at this
  | l :: L, [], w, a, b => by
    have := (a.all l (by simp)).1
    have e := a.flat
    rw [← b.flat, List.flatten_cons] at e
    rw [(List.append_eq_nil_iff.mp e).1] at this
    simp at this
  | l :: L, m :: M, w, a, b => by
    have pl : l <+: w := ⟨L.flatten, by rw [← a.flat, List.flatten_cons]⟩
    have pm : m <+: w := ⟨M.flatten, by rw [← b.flat, List.flatten_cons]⟩
    have h1 := nf_first a (b.all m (by simp)) pm
    have h2 := nf_first b (a.all l (by simp)) pl
    have hl : l = m := by
      obtain ⟨r, hr⟩ := List.prefix_of_prefix_length_le pl pm h2
      have : r = [] := by
        have := congrArg List.length hr
        simp at this
        exact List.length_eq_zero_iff.mp (by omega)
      rw [← hr, this, List.append_nil]
    subst hl
    have e : L.flatten = M.flatten := by
      have := a.flat.trans b.flat.symm
      rw [List.flatten_cons, List.flatten_cons] at this
      exact List.append_cancel_left this
    rw [nf_one (nf_tail a) (by have := nf_tail b; rwa [← e] at this)]
/-- the last factor is the least end -/
theorem nf_last {L : List (List Nat)} {l w : List Nat} (h : NF (L ++ [l]) w) : ∀ t, t < w.length → ¬ w.drop t < l := by
  have key : ∀ (M : List (List Nat)), (∀ u ∈ M, Ld u ∧ l ≤ u) → ∀ t, t < M.flatten.length → ¬ M.flatten.drop t < l := by
    intro M
    induction M with
    | nil => intro _ t ht; simp at ht
    | cons m M ih =>
      intro hm t ht
      obtain ⟨md, ml⟩ := hm m (by simp)
      by_cases q : t < m.length
      · rw [List.flatten_cons, List.drop_append_of_le_length (by omega)]
        have e1 : m ≤ m.drop t := by
          by_cases t0 : t = 0
          · subst t0; rw [List.drop_zero]; exact List.le_refl _
          · exact List.le_of_lt (ld_drop md (by omega) q)
        exact List.not_lt.mpr (List.le_trans ml (List.le_trans e1 (le_pre _ _)))
      · rw [List.flatten_cons, List.drop_append, List.drop_of_length_le (by omega), List.nil_append]
        refine ih (fun u hu => hm u (by simp [hu])) (t - m.length) ?_
        rw [List.flatten_cons, List.length_append] at ht
        omega
  have := key (L ++ [l]) (fun u hu => ⟨h.all u hu, by
    rcases List.mem_append.mp hu with q | q
    · exact (List.pairwise_append.mp h.sort).2.2 u q l (by simp)
    · rw [List.mem_singleton] at q
      rw [q]; exact List.le_refl _⟩)
  rw [h.flat] at this
  exact this
end LY
set_option Elab.async false
set_option linter.all false
set_option maxRecDepth 100000
set_option maxHeartbeats 2000000
set_option autoImplicit false
namespace LY
open LT
theorem getD_drop (w : List Nat) (b m : Nat) : (w.drop b).getD m 0 = w.getD (b + m) 0 := by simp [List.getD_eq_getElem?_getD, List.getElem?_drop]
theorem getD_take {w : List Nat} {b m : Nat} (h : m < b) : (w.take b).getD m 0 = w.getD m 0 := by simp [List.getD_eq_getElem?_getD, List.getElem?_take, h]
structure Du (w : List Nat) (b j k : Nat) : Prop where
  h1 : b ≤ k
  h2 : k < j
  h3 : j ≤ w.length
  ld : Ld ((w.drop b).take (j - k))
  per : ∀ m, m < j - b → w.getD (b + m) 0 = w.getD (b + m % (j - k)) 0
theorem du_start {w : List Nat} {b : Nat} (h : b < w.length) : Du w b (b + 1) b := by
  refine ⟨Nat.le_refl _, by omega, h, ?_, fun m hm => ?_⟩
  · have : (w.drop b).take (b + 1 - b) = [w[b]] := by
      rw [show b + 1 - b = 1 by omega, List.drop_eq_getElem_cons h]
      rfl
    rw [this]
    exact ld_one _
  · have : m = 0 := by omega
    subst this
    simp
theorem mod_sub {a p : Nat} (h : p ≤ a) : (a - p) % p = a % p := (Nat.mod_eq_sub_mod h).symm
theorem du_lt {w : List Nat} {b j k : Nat} (d : Du w b j k) (hj : j < w.length) (hl : w.getD k 0 < w.getD j 0) : Du w b (j + 1) b := by
  have d1 := d.h1
  have d2 := d.h2
  refine ⟨Nat.le_refl _, by omega, hj, ?_, fun m hm => by rw [Nat.mod_eq_of_lt hm]⟩
  have len : ((w.drop b).take (j + 1 - b)).length = j + 1 - b := by simp; omega
  have gx : ∀ m, m < j + 1 - b → ((w.drop b).take (j + 1 - b)).getD m 0 = w.getD (b + m) 0 := fun m hm => by rw [getD_take hm, getD_drop]
  have p1 : (j - b) % (j - k) = (k - b) % (j - k) := by
    rw [← mod_sub (show j - k ≤ j - b by omega)]
    congr 1
    omega
  refine ld_ext (p := j - k) (by omega) (by rw [len]; omega) ?_ (fun m hm => ?_) ?_
  · rw [List.take_take, Nat.min_eq_left (by omega)]
    exact d.ld
  · rw [len] at hm
    have : m % (j - k) ≤ m := Nat.mod_le _ _
    rw [gx m (by omega), gx _ (by omega)]
    exact d.per m (by omega)
  · rw [len]
    have e : j + 1 - b - 1 = j - b := by omega
    have : (j - b) % (j - k) ≤ j - b := Nat.mod_le _ _
    rw [e, gx _ (by omega), gx _ (by omega), p1, ← d.per (k - b) (by omega), show b + (k - b) = k by omega, show b + (j - b) = j by omega]
    exact hl
theorem du_eq {w : List Nat} {b j k : Nat} (d : Du w b j k) (hj : j < w.length) (he : w.getD k 0 = w.getD j 0) : Du w b (j + 1) (k + 1) := by
  have d1 := d.h1
  have d2 := d.h2
  have e : j + 1 - (k + 1) = j - k := by omega
  refine ⟨by omega, by omega, hj, by rw [e]; exact d.ld, fun m hm => ?_⟩
  rw [e]
  by_cases q : m < j - b
  · exact d.per m q
  · have : m = j - b := by omega
    subst this
    have p1 : (j - b) % (j - k) = (k - b) % (j - k) := by
      rw [← mod_sub (show j - k ≤ j - b by omega)]
      congr 1
      omega
    rw [p1, ← d.per (k - b) (by omega), show b + (k - b) = k by omega, show b + (j - b) = j by omega]
    exact he.symm
theorem du_cut {w : List Nat} {b j k t : Nat} (d : Du w b j k) (h : t * (j - k) + (j - k) ≤ j - b) : (w.drop (b + t * (j - k))).take (j - k) = (w.drop b).take (j - k) := by
  have d1 := d.h1
  have d2 := d.h2
  have d3 := d.h3
  have l1 : ((w.drop (b + t * (j - k))).take (j - k)).length = j - k := by simp; omega
  have l2 : ((w.drop b).take (j - k)).length = j - k := by simp; omega
  apply List.ext_getElem (by rw [l1, l2])
  intro m g1 g2
  rw [l1] at g1
  have a1 : ((w.drop (b + t * (j - k))).take (j - k)).getD m 0 = ((w.drop b).take (j - k)).getD m 0 := by
    rw [getD_take g1, getD_take g1, getD_drop, getD_drop, Nat.add_assoc, d.per _ (by omega)]
    congr 1
    rw [Nat.add_comm (t * (j - k)), Nat.add_mul_mod_self_right, Nat.mod_eq_of_lt g1]
  rw [List.getD_eq_getElem?_getD, List.getD_eq_getElem?_getD, List.getElem?_eq_getElem (by rw [l1]; exact g1), List.getElem?_eq_getElem (by rw [l2]; exact g1)] at a1
  exact a1
structure Fi (w : List Nat) (b : Nat) (L : List (List Nat)) : Prop where
  le : b ≤ w.length
  all : ∀ u ∈ L, Ld u
  sort : L.Pairwise fun a c => c ≤ a
  flat : L.flatten = w.take b
  low : ∀ l ∈ L, ∀ v, v ≠ [] → v <+: w.drop b → v ≤ l
theorem fi_zero (w : List Nat) : Fi w 0 [] := ⟨Nat.zero_le _, by simp, List.Pairwise.nil, by simp, by simp⟩
theorem fi_end {w : List Nat} {L : List (List Nat)} (f : Fi w w.length L) : NF L w := ⟨f.all, f.sort, by rw [f.flat, List.take_length]⟩
theorem pair_rep {u : List Nat} : ∀ t, (List.replicate t u).Pairwise fun a c => c ≤ a
  | 0 => List.Pairwise.nil
  | t + 1 => by
    rw [List.replicate_succ, List.pairwise_cons]
    exact ⟨fun x hx => by rw [List.eq_of_mem_replicate hx]; exact List.le_refl _, pair_rep t⟩
theorem fi_step {w : List Nat} {b j k t : Nat} {L : List (List Nat)} (f : Fi w b L) (d : Du w b j k) (hx : j = w.length ∨ w.getD j 0 < w.getD k 0) (t1 : t * (j - k) ≤ j - b) (t2 : j - b < t * (j - k) + (j - k)) : Fi w (b + t * (j - k)) (L ++ List.replicate t ((w.drop b).take (j - k))) := by
  have d1 := d.h1
  have d2 := d.h2
  have d3 := d.h3
  have ul : ((w.drop b).take (j - k)).length = j - k := by simp; omega
  have un : (w.drop b).take (j - k) ≠ [] := fun e => by rw [e] at ul; simp at ul; omega
  have up : (w.drop b).take (j - k) <+: w.drop b := List.take_prefix _ _
  have jm : (j - b) % (j - k) = j - b - t * (j - k) := by
    have e : j - b = (j - b - t * (j - k)) + t * (j - k) := by omega
    rw [e, Nat.add_mul_mod_self_right, Nat.mod_eq_of_lt (by omega)]
    omega
  -- what stands ahead is not greater
  have low : ∀ v, v ≠ [] → v <+: w.drop (b + t * (j - k)) → v ≤ (w.drop b).take (j - k) := by
    intro v v0 vp
    have vg : ∀ m, m < v.length → v.getD m 0 = w.getD (b + t * (j - k) + m) 0 := fun m hm => by
      obtain ⟨r, hr⟩ := vp
      rw [← getD_drop, ← hr]
      simp [List.getD_eq_getElem?_getD, List.getElem?_append_left hm]
    have ug : ∀ m, m < j - k → ((w.drop b).take (j - k)).getD m 0 = w.getD (b + m) 0 := fun m hm => by rw [getD_take hm, getD_drop]
    have agree : ∀ m, m < v.length → m < j - b - t * (j - k) → v.getD m 0 = ((w.drop b).take (j - k)).getD m 0 := fun m hm hq => by
      rw [vg m hm, ug m (by omega), Nat.add_assoc, d.per _ (by omega), Nat.add_comm (t * (j - k)), Nat.add_mul_mod_self_right, Nat.mod_eq_of_lt (by omega)]
    by_cases q : v.length ≤ j - b - t * (j - k)
    · have : v = ((w.drop b).take (j - k)).take v.length := by
        apply List.ext_getElem (by rw [List.length_take, ul]; omega)
        intro m g1 g2
        have := agree m g1 (by omega)
        rw [List.getD_eq_getElem?_getD, List.getD_eq_getElem?_getD, List.getElem?_eq_getElem g1, List.getElem?_eq_getElem (by rw [ul]; omega)] at this
        rw [List.getElem_take]
        exact this
      have e := le_pre (((w.drop b).take (j - k)).take v.length) (((w.drop b).take (j - k)).drop v.length)
      rw [List.take_append_drop, ← this] at e
      exact e
    · have vl : v.length ≤ w.length - (b + t * (j - k)) := by
        have := vp.length_le
        rwa [List.length_drop] at this
      have hj : j < w.length := by omega
      have hlt : w.getD j 0 < w.getD k 0 := by
        rcases hx with e | e
        · omega
        · exact e
      refine List.le_of_lt (pos_lt (j - b - t * (j - k)) (by omega) (by rw [ul]; omega) (fun m hm => agree m (by omega) hm) ?_)
      rw [vg _ (by omega), ug _ (by omega), ← jm]
      have p1 : (j - b) % (j - k) = (k - b) % (j - k) := by
        rw [← mod_sub (show j - k ≤ j - b by omega)]
        congr 1
        omega
      have e2 : w.getD (b + (j - b) % (j - k)) 0 = w.getD k 0 := by
        rw [p1, ← d.per (k - b) (by omega), show b + (k - b) = k by omega]
      rw [e2, jm, show b + t * (j - k) + (j - b - t * (j - k)) = j by omega]
      exact hlt
  refine ⟨by omega, fun u hu => ?_, ?_, ?_, fun l hl v v0 vp => ?_⟩
  · rcases List.mem_append.mp hu with q | q
    · exact f.all u q
    · rw [List.eq_of_mem_replicate q]; exact d.ld
  · rw [List.pairwise_append]
    refine ⟨f.sort, pair_rep t, fun a ha c hc => ?_⟩
    rw [List.eq_of_mem_replicate hc]
    exact f.low a ha _ un up
  · rw [List.flatten_append, f.flat]
    have key : ∀ s, s ≤ t → (List.replicate s ((w.drop b).take (j - k))).flatten = (w.drop b).take (s * (j - k)) := by
      intro s
      induction s with
      | zero => simp
      | succ s ih =>
        intro hs
        have ih := ih (by omega)
        have hm : s * (j - k) + (j - k) ≤ t * (j - k) := by
          rw [← Nat.succ_mul]
          exact Nat.mul_le_mul_right _ hs
        have := du_cut d (t := s) (by omega)
        rw [List.replicate_succ', List.flatten_append, ih, Nat.succ_mul, List.take_add, List.drop_drop]
        rw [this]
        simp
    rw [key t (Nat.le_refl _), List.take_add]
  · have a := low v v0 vp
    rcases List.mem_append.mp hl with q | q
    · exact List.le_trans a (f.low l q _ un up)
    · rw [List.eq_of_mem_replicate q]; exact a
end LY
set_option Elab.async false
set_option linter.all false
set_option maxRecDepth 100000
set_option maxHeartbeats 4000000
namespace Lw
open PySem PySem.Spec L2 DL
open PyProof.Rows hiding St
def top (i : Nat) : Stmt := PySem.Challenge.pw_everyrowhasit_k03_whole_rows_made_of_lea.main.body.getD i (.Pass ⟨0, 0, 0, 0⟩)
abbrev dd (x : Str) (i : Nat) : He.DefD := ⟨(x, none), x, x, defArgs (top i), defBody (top i), defScope (top i), [], []⟩
def fn : List He.DefD := [dd "is_row_of" 7, dd "check_row" 9, dd "border_lengths" 10, dd "borders_of" 11, dd "periods_of" 12, dd "turned_by" 14, dd "check_full" 15, dd "root_by" 16, dd "least_turn" 17, dd "ring_by" 18, dd "ring_of" 19, dd "root_of" 20, dd "is_leading_of" 21, dd "is_leading" 22, dd "factors_of" 23, dd "factoring" 24, dd "is_factoring" 25, dd "_law_pot" 27, dd "_law_take" 28, dd "_law_of" 29, dd "_law_cells" 30, dd "_law_row" 31, dd "_law_turns" 32, dd "_law_leads" 33, dd "_law_factors" 34, dd "_law_cut" 35, dd "_law_right" 36, dd "law" 37]
def fa : List He.Fa := [.glo "is_row_of", .glo "check_row", .glo "border_lengths", .glo "borders_of", .glo "periods_of", .glo "turned_by", .glo "check_full", .glo "root_by", .glo "least_turn", .glo "ring_by", .glo "ring_of", .glo "root_of", .glo "is_leading_of", .glo "is_leading", .glo "factors_of", .glo "factoring", .glo "is_factoring", .glo "_law_pot", .glo "_law_take", .glo "_law_of", .glo "_law_cells", .glo "_law_row", .glo "_law_turns", .glo "_law_leads", .glo "_law_factors", .glo "_law_cut", .glo "_law_right", .glo "law", .free "ValueError", .free "abs", .free "all", .free "int", .free "isinstance", .free "len", .free "list", .free "max", .free "min", .free "range", .free "repr", .free "sorted", .free "str", .free "sum", .free "super", .free "tuple", .free "zip", .glo "RowError", .glo "BadRow", .glo "Empty", .str "LETTERS" "abcdefghijklmnopqrstuvwxyz", .int "MOST_ROW" 400]
abbrev R : PySem.W.OpenRow := PySem.W.OpenLaw.row PySem.Challenge.rw_everyrowhasit_k03_whole_rows_made_of_lea
abbrev hk : PySem.W.Hook := He.hookD 5 fa fn
def ob (s : PySem.W.SharedT) : He.AlD := He.obsDG 5 fa fn (HandSHeadRun.getT s)
theorem ob_eq (s : PySem.W.SharedT) : ob s = hk.obs s.abs := He.obsDG_eq (HandSHeadRun.getT_eq s)
def loose0 : List PySem.Str := [PySem.Str.ofString "__name__", PySem.Str.ofString "RowError", PySem.Str.ofString "BadRow", PySem.Str.ofString "Empty", PySem.Str.ofString "LETTERS", PySem.Str.ofString "MOST_ROW", PySem.Str.ofString "is_row_of", PySem.Str.ofString "check_row", PySem.Str.ofString "border_lengths", PySem.Str.ofString "borders_of", PySem.Str.ofString "periods_of", PySem.Str.ofString "turned_by", PySem.Str.ofString "check_full", PySem.Str.ofString "root_by", PySem.Str.ofString "least_turn", PySem.Str.ofString "ring_by", PySem.Str.ofString "ring_of", PySem.Str.ofString "root_of", PySem.Str.ofString "is_leading_of", PySem.Str.ofString "is_leading", PySem.Str.ofString "factors_of", PySem.Str.ofString "factoring", PySem.Str.ofString "is_factoring", PySem.Str.ofString "_law_pot", PySem.Str.ofString "_law_take", PySem.Str.ofString "_law_of", PySem.Str.ofString "_law_cells", PySem.Str.ofString "_law_row", PySem.Str.ofString "_law_turns", PySem.Str.ofString "_law_leads", PySem.Str.ofString "_law_factors", PySem.Str.ofString "_law_cut", PySem.Str.ofString "_law_right"]
def loose : List PySem.Str := loose0
section
variable {P : Program} {w : World} {K : PySem.W.Frag} {mg : Str → Option Value} {base : Heap} {fdf : Nat → FuncData}
theorem m_is_row_of (T : Tx K mg fn fa fdf) : mg "is_row_of" = some (.ref (He.ga K "is_row_of")) := T.g 0 "is_row_of" rfl
theorem m_check_row (T : Tx K mg fn fa fdf) : mg "check_row" = some (.ref (He.ga K "check_row")) := T.g 1 "check_row" rfl
theorem m_border_lengths (T : Tx K mg fn fa fdf) : mg "border_lengths" = some (.ref (He.ga K "border_lengths")) := T.g 2 "border_lengths" rfl
theorem m_borders_of (T : Tx K mg fn fa fdf) : mg "borders_of" = some (.ref (He.ga K "borders_of")) := T.g 3 "borders_of" rfl
theorem m_periods_of (T : Tx K mg fn fa fdf) : mg "periods_of" = some (.ref (He.ga K "periods_of")) := T.g 4 "periods_of" rfl
theorem m_turned_by (T : Tx K mg fn fa fdf) : mg "turned_by" = some (.ref (He.ga K "turned_by")) := T.g 5 "turned_by" rfl
theorem m_check_full (T : Tx K mg fn fa fdf) : mg "check_full" = some (.ref (He.ga K "check_full")) := T.g 6 "check_full" rfl
theorem m_root_by (T : Tx K mg fn fa fdf) : mg "root_by" = some (.ref (He.ga K "root_by")) := T.g 7 "root_by" rfl
theorem m_least_turn (T : Tx K mg fn fa fdf) : mg "least_turn" = some (.ref (He.ga K "least_turn")) := T.g 8 "least_turn" rfl
theorem m_ring_by (T : Tx K mg fn fa fdf) : mg "ring_by" = some (.ref (He.ga K "ring_by")) := T.g 9 "ring_by" rfl
theorem m_ring_of (T : Tx K mg fn fa fdf) : mg "ring_of" = some (.ref (He.ga K "ring_of")) := T.g 10 "ring_of" rfl
theorem m_root_of (T : Tx K mg fn fa fdf) : mg "root_of" = some (.ref (He.ga K "root_of")) := T.g 11 "root_of" rfl
theorem m_is_leading_of (T : Tx K mg fn fa fdf) : mg "is_leading_of" = some (.ref (He.ga K "is_leading_of")) := T.g 12 "is_leading_of" rfl
theorem m_is_leading (T : Tx K mg fn fa fdf) : mg "is_leading" = some (.ref (He.ga K "is_leading")) := T.g 13 "is_leading" rfl
theorem m_factors_of (T : Tx K mg fn fa fdf) : mg "factors_of" = some (.ref (He.ga K "factors_of")) := T.g 14 "factors_of" rfl
theorem m_factoring (T : Tx K mg fn fa fdf) : mg "factoring" = some (.ref (He.ga K "factoring")) := T.g 15 "factoring" rfl
theorem m_is_factoring (T : Tx K mg fn fa fdf) : mg "is_factoring" = some (.ref (He.ga K "is_factoring")) := T.g 16 "is_factoring" rfl
theorem m__law_pot (T : Tx K mg fn fa fdf) : mg "_law_pot" = some (.ref (He.ga K "_law_pot")) := T.g 17 "_law_pot" rfl
theorem m__law_take (T : Tx K mg fn fa fdf) : mg "_law_take" = some (.ref (He.ga K "_law_take")) := T.g 18 "_law_take" rfl
theorem m__law_of (T : Tx K mg fn fa fdf) : mg "_law_of" = some (.ref (He.ga K "_law_of")) := T.g 19 "_law_of" rfl
theorem m__law_cells (T : Tx K mg fn fa fdf) : mg "_law_cells" = some (.ref (He.ga K "_law_cells")) := T.g 20 "_law_cells" rfl
theorem m__law_row (T : Tx K mg fn fa fdf) : mg "_law_row" = some (.ref (He.ga K "_law_row")) := T.g 21 "_law_row" rfl
theorem m__law_turns (T : Tx K mg fn fa fdf) : mg "_law_turns" = some (.ref (He.ga K "_law_turns")) := T.g 22 "_law_turns" rfl
theorem m__law_leads (T : Tx K mg fn fa fdf) : mg "_law_leads" = some (.ref (He.ga K "_law_leads")) := T.g 23 "_law_leads" rfl
theorem m__law_factors (T : Tx K mg fn fa fdf) : mg "_law_factors" = some (.ref (He.ga K "_law_factors")) := T.g 24 "_law_factors" rfl
theorem m__law_cut (T : Tx K mg fn fa fdf) : mg "_law_cut" = some (.ref (He.ga K "_law_cut")) := T.g 25 "_law_cut" rfl
theorem m__law_right (T : Tx K mg fn fa fdf) : mg "_law_right" = some (.ref (He.ga K "_law_right")) := T.g 26 "_law_right" rfl
theorem m_law (T : Tx K mg fn fa fdf) : mg "law" = some (.ref (He.ga K "law")) := T.g 27 "law" rfl
theorem m_ValueError (T : Tx K mg fn fa fdf) : mg "ValueError" = none := T.f 28 "ValueError" rfl
theorem m_abs (T : Tx K mg fn fa fdf) : mg "abs" = none := T.f 29 "abs" rfl
theorem m_all (T : Tx K mg fn fa fdf) : mg "all" = none := T.f 30 "all" rfl
theorem m_int (T : Tx K mg fn fa fdf) : mg "int" = none := T.f 31 "int" rfl
theorem m_isinstance (T : Tx K mg fn fa fdf) : mg "isinstance" = none := T.f 32 "isinstance" rfl
theorem m_len (T : Tx K mg fn fa fdf) : mg "len" = none := T.f 33 "len" rfl
theorem m_list (T : Tx K mg fn fa fdf) : mg "list" = none := T.f 34 "list" rfl
theorem m_max (T : Tx K mg fn fa fdf) : mg "max" = none := T.f 35 "max" rfl
theorem m_min (T : Tx K mg fn fa fdf) : mg "min" = none := T.f 36 "min" rfl
theorem m_range (T : Tx K mg fn fa fdf) : mg "range" = none := T.f 37 "range" rfl
theorem m_repr (T : Tx K mg fn fa fdf) : mg "repr" = none := T.f 38 "repr" rfl
theorem m_sorted (T : Tx K mg fn fa fdf) : mg "sorted" = none := T.f 39 "sorted" rfl
theorem m_str (T : Tx K mg fn fa fdf) : mg "str" = none := T.f 40 "str" rfl
theorem m_sum (T : Tx K mg fn fa fdf) : mg "sum" = none := T.f 41 "sum" rfl
theorem m_super (T : Tx K mg fn fa fdf) : mg "super" = none := T.f 42 "super" rfl
theorem m_tuple (T : Tx K mg fn fa fdf) : mg "tuple" = none := T.f 43 "tuple" rfl
theorem m_zip (T : Tx K mg fn fa fdf) : mg "zip" = none := T.f 44 "zip" rfl
theorem m_RowError (T : Tx K mg fn fa fdf) : mg "RowError" = some (.ref (He.ga K "RowError")) := T.g 45 "RowError" rfl
theorem m_BadRow (T : Tx K mg fn fa fdf) : mg "BadRow" = some (.ref (He.ga K "BadRow")) := T.g 46 "BadRow" rfl
theorem m_Empty (T : Tx K mg fn fa fdf) : mg "Empty" = some (.ref (He.ga K "Empty")) := T.g 47 "Empty" rfl
theorem m_LETTERS (T : Tx K mg fn fa fdf) : ∃ t, mg "LETTERS" = some (.str (Str.ofString "abcdefghijklmnopqrstuvwxyz") t) := T.s 48 "LETTERS" "abcdefghijklmnopqrstuvwxyz" rfl
theorem m_MOST_ROW (T : Tx K mg fn fa fdf) : ∃ t, mg "MOST_ROW" = some (.int 400 t) := T.n 49 "MOST_ROW" (400) rfl
def N_is_row_of : List Str := [Str.ofString "value", Str.ofString "sign"]
def g_is_row_of : SM := (sRet (dAnd (dIsi "str" (eVar 0)) (dAnd (dBin leP (dCW lenP (aCons (eVar 0) aNil)) (eC (.t (.int (400))))) (dCW allP (aCons (dLc false (iAny (eVar 0)) (gN 1) tYesD (dBin inSP (eVar 1) (eC (.t (.str (Str.ofString "abcdefghijklmnopqrstuvwxyz"))))) [1]) aNil)))))
def F_is_row_of : List D → M D := runF false 2 g_is_row_of
theorem sc_is_row_of : FnScope N_is_row_of [Str.ofString "value"] (defScope (top 7)) := ⟨rfl, rfl, rfl, by decide +kernel, rfl, by decide +kernel, by decide +kernel⟩
theorem ok_is_row_of (T : Tx K mg fn fa fdf) : FnG P w K mg base 1 (He.ga K "is_row_of") (fdf 0) [Str.ofString "value"] F_is_row_of :=
  fn_g false (T.d 0 (dd "is_row_of" 7) rfl) sc_is_row_of fun cdv A outer s H E WE hr hgd tk =>
    (ds_one (ds_ret (de_and (de_isi "str" (by decide +kernel) rfl (m_isinstance T) (pe_bltn (v := .ty "str") rfl (m_str T) v_str rfl) (dv 0)) (de_and (de_cmp op_leA pd_le (de_bw call_len pw_len rfl (m_len T) v_len (da_cons (dv 0) da_nil)) (de_gint rfl (m_MOST_ROW T)) (nomark _)) (de_one (de_bw (cr_all rfl) pw_all rfl (m_all T) v_all (da_cons (de_lc false (own := [(Str.ofString "sign", 1)]) rfl sc_is_row_of.nd (di_any (dv 0)) (blkOk_by (by kernel_rfl)) (fun _ _ _ _ _ => (dgn 1 sc_is_row_of.nd)) (fun _ _ _ _ _ => dts_nil) (fun _ _ _ _ _ => (de_cmp op_in_sign pd_inS (dv 1) (de_gstr rfl (m_LETTERS T)) (by with_unfolding_all rfl))) (by decide)) da_nil)))))))
theorem b_is_row_of (T : Tx K mg fn fa fdf) : Binds K (fdf 0) [Str.ofString "value"] [] := FunD.bindsN (T.d 0 (dd "is_row_of" 7) rfl) fun _ _ _ _ _ _ us hl => match us, hl with | [_], _ => rfl
theorem k_is_row_of (T : Tx K mg fn fa fdf) : PySem.W.keepIn K (.ref (He.ga K "is_row_of")) = true := (T.d 0 (dd "is_row_of" 7) rfl).kp
def N_border_lengths : List Str := [Str.ofString "row", Str.ofString "found", Str.ofString "length", Str.ofString "at"]
def g_border_lengths : SM := (sSeq (sPar 1 2 (aCons (dRep true (dLst false (aCons (eC (.t (.int 0))) aNil)) (dCW lenP (aCons (eVar 0) aNil))) (aCons (eC (.t (.int 0))) aNil))) (sSeq (sFor (iRg2 (aCons (eC (.t (.int 1))) (aCons (dCW lenP (aCons (eVar 0) aNil)) aNil))) (gN 3) (sSeq (sWhile fu (tAndD (dTest (dBin gtP (eVar 2) (eC (.t (.int 0))))) (dTest (dBin neP (dIx ixP (eVar 0) (eVar 3)) (dIx ixP (eVar 0) (eVar 2))))) (sSet 2 (dIx ixP (eVar 1) (dBin subP (eVar 2) (eC (.t (.int 1))))))) (sSeq (sSet 2 (dIf (dTest (dBin eqP (dIx ixP (eVar 0) (eVar 3)) (dIx ixP (eVar 0) (eVar 2)))) (dBin addP (eVar 2) (eC (.t (.int 1)))) (eC (.t (.int 0))))) (sSub (eVar 1) (eVar 3) (eVar 2))))) (sRet (eVar 1))))
def F_border_lengths : List D → M D := runF false 4 g_border_lengths
theorem sc_border_lengths : FnScope N_border_lengths [Str.ofString "row"] (defScope (top 10)) := ⟨rfl, rfl, rfl, by decide +kernel, rfl, by decide +kernel, by decide +kernel⟩
theorem ok_border_lengths (T : Tx K mg fn fa fdf) : FnG P w K mg base 1 (He.ga K "border_lengths") (fdf 2) [Str.ofString "row"] F_border_lengths :=
  fn_g false (T.d 2 (dd "border_lengths" 10) rfl) sc_border_lengths fun cdv A outer s H E WE hr hgd tk =>
    (ds_cons (ds_par (i := 1) (j := 2) rfl sc_border_lengths.nd rfl rfl (by decide) rfl rfl (da_cons (de_rep true (de_lst false (da_cons de_int da_nil)) (de_bw call_len pw_len rfl (m_len T) v_len (da_cons (dv 0) da_nil))) (da_cons de_int da_nil)) rfl) (ds_cons (ds_for (passes_of rfl) rfl (di_rg2 rfl (m_range T) (da_cons de_int (da_cons (de_bw call_len pw_len rfl (m_len T) v_len (da_cons (dv 0) da_nil)) da_nil))) (dgn 3 sc_border_lengths.nd) (ds_cons (ds_while fu (passes_of rfl) (dt_w (dw_and (dt_cmp op_gtA pd_gt (dv 2) de_int (nomark _)) (dw_and1 (dt_cmp (op_neA hr.units) pd_ne (de_ix (dv 0) (dv 3) (fun _ _ => rfl)) (de_ix (dv 0) (dv 2) (fun _ _ => rfl)) (nomark _))))) (ds_one (dset 2 sc_border_lengths.nd (de_ix (dv 1) (de_bin op_sub pd_sub (dv 2) de_int) (fun _ _ => rfl))))) (ds_cons (dset 2 sc_border_lengths.nd (de_if (dt_cmp (op_eqA hr.units) pd_eq (de_ix (dv 0) (dv 3) (fun _ _ => rfl)) (de_ix (dv 0) (dv 2) (fun _ _ => rfl)) (nomark _)) (de_bin op_addA pd_add (dv 2) de_int) de_int)) (ds_one (ds_sub (dv 1) (dv 3) (dv 2)))))) (ds_one (ds_ret (dv 1)))))
theorem b_border_lengths (T : Tx K mg fn fa fdf) : Binds K (fdf 2) [Str.ofString "row"] [] := FunD.bindsN (T.d 2 (dd "border_lengths" 10) rfl) fun _ _ _ _ _ _ us hl => match us, hl with | [_], _ => rfl
theorem k_border_lengths (T : Tx K mg fn fa fdf) : PySem.W.keepIn K (.ref (He.ga K "border_lengths")) = true := (T.d 2 (dd "border_lengths" 10) rfl).kp
def N_turned_by : List Str := [Str.ofString "row", Str.ofString "by"]
def g_turned_by : SM := (sRet (dBin addP (dSl false (eVar 0) (oSome (eVar 1)) oNone) (dSl false (eVar 0) oNone (oSome (eVar 1)))))
def F_turned_by : List D → M D := runF false 2 g_turned_by
theorem sc_turned_by : FnScope N_turned_by [Str.ofString "row", Str.ofString "by"] (defScope (top 14)) := ⟨rfl, rfl, rfl, by decide +kernel, rfl, by decide +kernel, by decide +kernel⟩
theorem ok_turned_by (T : Tx K mg fn fa fdf) : FnG P w K mg base 1 (He.ga K "turned_by") (fdf 5) [Str.ofString "row", Str.ofString "by"] F_turned_by :=
  fn_g false (T.d 5 (dd "turned_by" 14) rfl) sc_turned_by fun cdv A outer s H E WE hr hgd tk =>
    (ds_one (ds_ret (de_bin op_addA pd_add (de_sl false (dv 0) (do_some (dv 1)) do_none) (de_sl false (dv 0) do_none (do_some (dv 1))))))
theorem b_turned_by (T : Tx K mg fn fa fdf) : Binds K (fdf 5) [Str.ofString "row", Str.ofString "by"] [] := FunD.bindsN (T.d 5 (dd "turned_by" 14) rfl) fun _ _ _ _ _ _ us hl => match us, hl with | [_, _], _ => rfl
theorem k_turned_by (T : Tx K mg fn fa fdf) : PySem.W.keepIn K (.ref (He.ga K "turned_by")) = true := (T.d 5 (dd "turned_by" 14) rfl).kp
def N_least_turn : List Str := [Str.ofString "row", Str.ofString "double", Str.ofString "one", Str.ofString "other", Str.ofString "same"]
def g_least_turn : SM := (sSeq (sAsg (gT 4 (gsCons (gN 1) (gsCons (gN 2) (gsCons (gN 3) (gsCons (gN 4) gsNil))))) (dTup (aCons (dBin addP (eVar 0) (eVar 0)) (aCons (eC (.t (.int 0))) (aCons (eC (.t (.int 1))) (aCons (eC (.t (.int 0))) aNil)))))) (sSeq (sWhile fu (tAndD (dTest (dBin ltP (eVar 2) (dCW lenP (aCons (eVar 0) aNil)))) (tAndD (dTest (dBin ltP (eVar 3) (dCW lenP (aCons (eVar 0) aNil)))) (dTest (dBin ltP (eVar 4) (dCW lenP (aCons (eVar 0) aNil)))))) (sIf (dTest (dBin eqP (dIx ixP (eVar 1) (dBin addP (eVar 2) (eVar 4))) (dIx ixP (eVar 1) (dBin addP (eVar 3) (eVar 4))))) (sSet 4 (dBin addP (eVar 4) (eC (.t (.int 1))))) (sIf (dTest (dBin gtP (dIx ixP (eVar 1) (dBin addP (eVar 2) (eVar 4))) (dIx ixP (eVar 1) (dBin addP (eVar 3) (eVar 4))))) (sSeq (sPar 2 4 (aCons (dCW maxQ (aCons (dBin addP (dBin addP (eVar 2) (eVar 4)) (eC (.t (.int 1)))) (aCons (eVar 3) aNil))) (aCons (eC (.t (.int 0))) aNil))) (sSet 3 (dBin addP (eVar 2) (eC (.t (.int 1)))))) (sPar 3 4 (aCons (dBin addP (dBin addP (eVar 3) (eVar 4)) (eC (.t (.int 1)))) (aCons (eC (.t (.int 0))) aNil)))))) (sRet (eVar 2))))
def F_least_turn : List D → M D := runF false 5 g_least_turn
theorem sc_least_turn : FnScope N_least_turn [Str.ofString "row"] (defScope (top 17)) := ⟨rfl, rfl, rfl, by decide +kernel, rfl, by decide +kernel, by decide +kernel⟩
theorem ok_least_turn (T : Tx K mg fn fa fdf) : FnG P w K mg base 1 (He.ga K "least_turn") (fdf 8) [Str.ofString "row"] F_least_turn :=
  fn_g false (T.d 8 (dd "least_turn" 17) rfl) sc_least_turn fun cdv A outer s H E WE hr hgd tk =>
    (ds_cons (ds_asg (de_tup (da_cons (de_bin op_addA pd_add (dv 0) (dv 0)) (da_cons de_int (da_cons de_int (da_cons de_int da_nil))))) (dg_tup rfl (dgs_cons (dgn 1 sc_least_turn.nd) (dgs_cons (dgn 2 sc_least_turn.nd) (dgs_cons (dgn 3 sc_least_turn.nd) (dgs_cons (dgn 4 sc_least_turn.nd) dgs_nil)))))) (ds_cons (ds_while fu (passes_of rfl) (dt_w (dw_and (dt_cmp op_ltA pd_lt (dv 2) (de_bw call_len pw_len rfl (m_len T) v_len (da_cons (dv 0) da_nil)) (nomark _)) (dw_and (dt_cmp op_ltA pd_lt (dv 3) (de_bw call_len pw_len rfl (m_len T) v_len (da_cons (dv 0) da_nil)) (nomark _)) (dw_and1 (dt_cmp op_ltA pd_lt (dv 4) (de_bw call_len pw_len rfl (m_len T) v_len (da_cons (dv 0) da_nil)) (nomark _)))))) (ds_one (ds_if (dt_cmp (op_eqA hr.units) pd_eq (de_ix (dv 1) (de_bin op_addA pd_add (dv 2) (dv 4)) (fun _ _ => rfl)) (de_ix (dv 1) (de_bin op_addA pd_add (dv 3) (dv 4)) (fun _ _ => rfl)) (nomark _)) (ds_one (dset 4 sc_least_turn.nd (de_bin op_addA pd_add (dv 4) de_int))) (ds_one (ds_if (dt_cmp op_gtA pd_gt (de_ix (dv 1) (de_bin op_addA pd_add (dv 2) (dv 4)) (fun _ _ => rfl)) (de_ix (dv 1) (de_bin op_addA pd_add (dv 3) (dv 4)) (fun _ _ => rfl)) (nomark _)) (ds_cons (ds_par (i := 2) (j := 4) rfl sc_least_turn.nd rfl rfl (by decide) rfl rfl (da_cons (de_bw (call_maxQ rfl hr.units) pw_maxQ rfl (m_max T) v_max (da_cons (de_bin op_addA pd_add (de_bin op_addA pd_add (dv 2) (dv 4)) de_int) (da_cons (dv 3) da_nil))) (da_cons de_int da_nil)) rfl) (ds_one (dset 3 sc_least_turn.nd (de_bin op_addA pd_add (dv 2) de_int)))) (ds_one (ds_par (i := 3) (j := 4) rfl sc_least_turn.nd rfl rfl (by decide) rfl rfl (da_cons (de_bin op_addA pd_add (de_bin op_addA pd_add (dv 3) (dv 4)) de_int) (da_cons de_int da_nil)) rfl))))))) (ds_one (ds_ret (dv 2)))))
theorem b_least_turn (T : Tx K mg fn fa fdf) : Binds K (fdf 8) [Str.ofString "row"] [] := FunD.bindsN (T.d 8 (dd "least_turn" 17) rfl) fun _ _ _ _ _ _ us hl => match us, hl with | [_], _ => rfl
theorem k_least_turn (T : Tx K mg fn fa fdf) : PySem.W.keepIn K (.ref (He.ga K "least_turn")) = true := (T.d 8 (dd "least_turn" 17) rfl).kp
def N_factors_of : List Str := [Str.ofString "row", Str.ofString "found", Str.ofString "begin", Str.ofString "here", Str.ofString "ahead", Str.ofString "long"]
def g_factors_of : SM := (sSeq (sPar 1 2 (aCons (dLst true aNil) (aCons (eC (.t (.int 0))) aNil))) (sSeq (sWhile fu (dTest (dBin ltP (eVar 2) (dCW lenP (aCons (eVar 0) aNil)))) (sSeq (sPar 3 4 (aCons (dBin addP (eVar 2) (eC (.t (.int 1)))) (aCons (eVar 2) aNil))) (sSeq (sWhile fu (tAndD (dTest (dBin ltP (eVar 3) (dCW lenP (aCons (eVar 0) aNil)))) (dTest (dBin leP (dIx ixP (eVar 0) (eVar 4)) (dIx ixP (eVar 0) (eVar 3))))) (sSeq (sSet 4 (dIf (dTest (dBin ltP (dIx ixP (eVar 0) (eVar 4)) (dIx ixP (eVar 0) (eVar 3)))) (eVar 2) (dBin addP (eVar 4) (eC (.t (.int 1)))))) (sSet 3 (dBin addP (eVar 3) (eC (.t (.int 1))))))) (sSeq (sSet 5 (dBin subP (eVar 3) (eVar 4))) (sWhile fu (dTest (dBin leP (eVar 2) (eVar 4))) (sSeq (sDrop (dApp (eVar 1) (dSl false (eVar 0) (oSome (eVar 2)) (oSome (dBin addP (eVar 2) (eVar 5)))))) (sSet 2 (dBin addP (eVar 2) (eVar 5))))))))) (sRet (eVar 1))))
def F_factors_of : List D → M D := runF false 6 g_factors_of
theorem sc_factors_of : FnScope N_factors_of [Str.ofString "row"] (defScope (top 23)) := ⟨rfl, rfl, rfl, by decide +kernel, rfl, by decide +kernel, by decide +kernel⟩
theorem ok_factors_of (T : Tx K mg fn fa fdf) : FnG P w K mg base 1 (He.ga K "factors_of") (fdf 14) [Str.ofString "row"] F_factors_of :=
  fn_g false (T.d 14 (dd "factors_of" 23) rfl) sc_factors_of fun cdv A outer s H E WE hr hgd tk =>
    (ds_cons (ds_par (i := 1) (j := 2) rfl sc_factors_of.nd rfl rfl (by decide) rfl rfl (da_cons (de_lst true da_nil) (da_cons de_int da_nil)) rfl) (ds_cons (ds_while fu (passes_of rfl) (dt_cmp op_ltA pd_lt (dv 2) (de_bw call_len pw_len rfl (m_len T) v_len (da_cons (dv 0) da_nil)) (nomark _)) (ds_cons (ds_par (i := 3) (j := 4) rfl sc_factors_of.nd rfl rfl (by decide) rfl rfl (da_cons (de_bin op_addA pd_add (dv 2) de_int) (da_cons (dv 2) da_nil)) rfl) (ds_cons (ds_while fu (passes_of rfl) (dt_w (dw_and (dt_cmp op_ltA pd_lt (dv 3) (de_bw call_len pw_len rfl (m_len T) v_len (da_cons (dv 0) da_nil)) (nomark _)) (dw_and1 (dt_cmp op_leA pd_le (de_ix (dv 0) (dv 4) (fun _ _ => rfl)) (de_ix (dv 0) (dv 3) (fun _ _ => rfl)) (nomark _))))) (ds_cons (dset 4 sc_factors_of.nd (de_if (dt_cmp op_ltA pd_lt (de_ix (dv 0) (dv 4) (fun _ _ => rfl)) (de_ix (dv 0) (dv 3) (fun _ _ => rfl)) (nomark _)) (dv 2) (de_bin op_addA pd_add (dv 4) de_int))) (ds_one (dset 3 sc_factors_of.nd (de_bin op_addA pd_add (dv 3) de_int))))) (ds_cons (dset 5 sc_factors_of.nd (de_bin op_sub pd_sub (dv 3) (dv 4))) (ds_one (ds_while fu (passes_of rfl) (dt_cmp op_leA pd_le (dv 2) (dv 4) (nomark _)) (ds_cons (ds_expr (de_app (dv 1) (de_sl false (dv 0) (do_some (dv 2)) (do_some (de_bin op_addA pd_add (dv 2) (dv 5)))))) (ds_one (dset 2 sc_factors_of.nd (de_bin op_addA pd_add (dv 2) (dv 5))))))))))) (ds_one (ds_ret (dv 1)))))
theorem b_factors_of (T : Tx K mg fn fa fdf) : Binds K (fdf 14) [Str.ofString "row"] [] := FunD.bindsN (T.d 14 (dd "factors_of" 23) rfl) fun _ _ _ _ _ _ us hl => match us, hl with | [_], _ => rfl
theorem k_factors_of (T : Tx K mg fn fa fdf) : PySem.W.keepIn K (.ref (He.ga K "factors_of")) = true := (T.d 14 (dd "factors_of" 23) rfl).kp
def N__law_pot : List Str := [Str.ofString "script", Str.ofString "place", Str.ofString "cell", Str.ofString "own", Str.ofString "small"]
def g__law_pot : SM := (sSeq (sSet 2 (dIf (dTest (dBin ltP (eVar 1) (dCW lenP (aCons (eVar 0) aNil)))) (dIx ixP (eVar 0) (eVar 1)) (dBin addP (dBin addP (dBin modP (dCW intP (aCons (dCW sumP (aCons (dSl false (eVar 0) oNone (oSome (eC (.t (.int 1))))) aNil)) aNil)) (eC (.t (.int 1000003)))) (dBin mulP (eC (.t (.int 4904))) (eVar 1))) (eC (.t (.int 12518)))))) (sSeq (sSet 3 (dBin mulP (dBin modP (dCW intP (aCons (dCW absP (aCons (eVar 2) aNil)) aNil)) (dBin powP (dBin powP (eC (.t (.int 10))) (eC (.t (.int 60)))) (eC (.t (.int 5))))) (dCW intP (aCons (dBin geP (dCW absP (aCons (eVar 2) aNil)) (dBin powP (eC (.t (.int 10))) (eC (.t (.int 18))))) aNil)))) (sSeq (sSet 4 (dBin modP (dCW intP (aCons (eVar 2) aNil)) (eC (.t (.int 2305843009213693951))))) (sRet (dLst true (aCons (eVar 3) (aCons (dBin modP (dCW intP (aCons (dBin addP (dBin addP (dBin mulP (eVar 4) (eC (.t (.int 107319)))) (dBin mulP (dBin mulP (eC (.t (.int 16417))) (eVar 1)) (eVar 1))) (eC (.t (.int 4304)))) aNil)) (eC (.t (.int 2305843009213693921)))) (aCons (eC (.t (.int 0))) aNil))))))))
def F__law_pot : List D → M D := runF true 5 g__law_pot
theorem sc__law_pot : FnScope N__law_pot [Str.ofString "script", Str.ofString "place"] (defScope (top 27)) := ⟨rfl, rfl, rfl, by decide +kernel, rfl, by decide +kernel, by decide +kernel⟩
theorem ok__law_pot (T : Tx K mg fn fa fdf) : FnG P w K mg base 1 (He.ga K "_law_pot") (fdf 17) [Str.ofString "script", Str.ofString "place"] F__law_pot :=
  fn_g true (T.d 17 (dd "_law_pot" 27) rfl) sc__law_pot fun cdv A outer s H E WE hr hgd tk =>
    (ds_cons (dset 2 sc__law_pot.nd (de_if (dt_cmp op_ltA pd_lt (dv 1) (de_bw call_len pw_len rfl (m_len T) v_len (da_cons (dv 0) da_nil)) (nomark _)) (de_ix (dv 0) (dv 1) (fun _ _ => rfl)) (de_bin op_addA pd_add (de_bin op_addA pd_add (de_bin op_mod pd_mod (de_tw call_int1 pw_int rfl (m_int T) v_int (da_cons (de_bw (cr_sum rfl) pw_sum rfl (m_sum T) v_sum (da_cons (de_sl false (dv 0) do_none (do_some de_int)) da_nil)) da_nil)) de_int) (de_bin op_mulA pd_mul de_int (dv 1))) de_int))) (ds_cons (dset 3 sc__law_pot.nd (de_bin op_mulA pd_mul (de_bin op_mod pd_mod (de_tw call_int1 pw_int rfl (m_int T) v_int (da_cons (de_bw call_abs pw_abs rfl (m_abs T) v_abs (da_cons (dv 2) da_nil)) da_nil)) (de_bin op_powX pd_pow (de_bin op_powX pd_pow de_int de_int) de_int)) (de_tw call_int1 pw_int rfl (m_int T) v_int (da_cons (de_cmp op_geA pd_ge (de_bw call_abs pw_abs rfl (m_abs T) v_abs (da_cons (dv 2) da_nil)) (de_bin op_powX pd_pow de_int de_int) (nomark _)) da_nil)))) (ds_cons (dset 4 sc__law_pot.nd (de_bin op_mod pd_mod (de_tw call_int1 pw_int rfl (m_int T) v_int (da_cons (dv 2) da_nil)) de_int)) (ds_one (ds_ret (de_lst true (da_cons (dv 3) (da_cons (de_bin op_mod pd_mod (de_tw call_int1 pw_int rfl (m_int T) v_int (da_cons (de_bin op_addA pd_add (de_bin op_addA pd_add (de_bin op_mulA pd_mul (dv 4) de_int) (de_bin op_mulA pd_mul (de_bin op_mulA pd_mul de_int (dv 1)) (dv 1))) de_int) da_nil)) de_int) (da_cons de_int da_nil)))))))))
theorem b__law_pot (T : Tx K mg fn fa fdf) : Binds K (fdf 17) [Str.ofString "script", Str.ofString "place"] [] := FunD.bindsN (T.d 17 (dd "_law_pot" 27) rfl) fun _ _ _ _ _ _ us hl => match us, hl with | [_, _], _ => rfl
theorem k__law_pot (T : Tx K mg fn fa fdf) : PySem.W.keepIn K (.ref (He.ga K "_law_pot")) = true := (T.d 17 (dd "_law_pot" 27) rfl).kp
def N__law_take : List Str := [Str.ofString "pot", Str.ofString "upto", Str.ofString "digit", Str.ofString "prime", Str.ofString "blend"]
def g__law_take : SM := (sSeq (sIf (dTest (dBin gtP (dIx ixP (eVar 0) (eC (.t (.int 0)))) (eC (.t (.int 0))))) (sSeq (sSet 2 (dBin modP (dCW intP (aCons (dIx ixP (eVar 0) (eC (.t (.int 0)))) aNil)) (eVar 1))) (sSeq (sSub (eVar 0) (eC (.t (.int 0))) (dBin fdivP (dIx ixP (eVar 0) (eC (.t (.int 0)))) (eVar 1))) (sRet (eVar 2)))) sNext) (sSeq (sSub (eVar 0) (eC (.t (.int 2))) (dBin addP (dIx ixP (eVar 0) (eC (.t (.int 2)))) (eC (.t (.int 1))))) (sSeq (sSet 3 (dIx ixP (dLst false (aCons (eC (.t (.int 2147483647))) (aCons (eC (.t (.int 2147483629))) (aCons (eC (.t (.int 2147483587))) (aCons (eC (.t (.int 2147483579))) aNil))))) (dBin modP (dCW intP (aCons (dIx ixP (eVar 0) (eC (.t (.int 2)))) aNil)) (eC (.t (.int 4)))))) (sSeq (sSet 4 (dBin modP (dCW intP (aCons (dBin powP (dCW intP (aCons (dBin addP (dBin addP (dIx ixP (eVar 0) (eC (.t (.int 1)))) (dBin mulP (dBin mulP (eC (.t (.int 163069))) (dIx ixP (eVar 0) (eC (.t (.int 2))))) (dIx ixP (eVar 0) (eC (.t (.int 2)))))) (eC (.t (.int 5004)))) aNil)) (eC (.t (.int 3)))) aNil)) (eVar 3))) (sRet (dBin modP (dCW intP (aCons (dBin fdivP (dBin mulP (eVar 4) (dBin addP (dBin modP (dCW intP (aCons (eVar 4) aNil)) (eC (.t (.int 10007)))) (dBin mulP (eC (.t (.int 4206))) (dIx ixP (eVar 0) (eC (.t (.int 2))))))) (eC (.t (.int 307)))) aNil)) (eVar 1)))))))
def F__law_take : List D → M D := runF false 5 g__law_take
theorem sc__law_take : FnScope N__law_take [Str.ofString "pot", Str.ofString "upto"] (defScope (top 28)) := ⟨rfl, rfl, rfl, by decide +kernel, rfl, by decide +kernel, by decide +kernel⟩
theorem ok__law_take (T : Tx K mg fn fa fdf) : FnG P w K mg base 1 (He.ga K "_law_take") (fdf 18) [Str.ofString "pot", Str.ofString "upto"] F__law_take :=
  fn_g false (T.d 18 (dd "_law_take" 28) rfl) sc__law_take fun cdv A outer s H E WE hr hgd tk =>
    (ds_cons (ds_if (dt_cmp op_gtA pd_gt (de_ix (dv 0) de_int (fun _ _ => rfl)) de_int (nomark _)) (ds_cons (dset 2 sc__law_take.nd (de_bin op_mod pd_mod (de_tw call_int1 pw_int rfl (m_int T) v_int (da_cons (de_ix (dv 0) de_int (fun _ _ => rfl)) da_nil)) (dv 1))) (ds_cons (ds_sub (dv 0) de_int (de_bin op_fdivW pd_fdiv (de_ix (dv 0) de_int (fun _ _ => rfl)) (dv 1))) (ds_one (ds_ret (dv 2))))) ds_nil) (ds_cons (ds_sub (dv 0) de_int (de_bin op_addA pd_add (de_ix (dv 0) de_int (fun _ _ => rfl)) de_int)) (ds_cons (dset 3 sc__law_take.nd (de_ix (de_lst false (da_cons de_int (da_cons de_int (da_cons de_int (da_cons de_int da_nil))))) (de_bin op_mod pd_mod (de_tw call_int1 pw_int rfl (m_int T) v_int (da_cons (de_ix (dv 0) de_int (fun _ _ => rfl)) da_nil)) de_int) (fun _ _ => rfl))) (ds_cons (dset 4 sc__law_take.nd (de_bin op_mod pd_mod (de_tw call_int1 pw_int rfl (m_int T) v_int (da_cons (de_bin op_powX pd_pow (de_tw call_int1 pw_int rfl (m_int T) v_int (da_cons (de_bin op_addA pd_add (de_bin op_addA pd_add (de_ix (dv 0) de_int (fun _ _ => rfl)) (de_bin op_mulA pd_mul (de_bin op_mulA pd_mul de_int (de_ix (dv 0) de_int (fun _ _ => rfl))) (de_ix (dv 0) de_int (fun _ _ => rfl)))) de_int) da_nil)) de_int) da_nil)) (dv 3))) (ds_one (ds_ret (de_bin op_mod pd_mod (de_tw call_int1 pw_int rfl (m_int T) v_int (da_cons (de_bin op_fdivW pd_fdiv (de_bin op_mulA pd_mul (dv 4) (de_bin op_addA pd_add (de_bin op_mod pd_mod (de_tw call_int1 pw_int rfl (m_int T) v_int (da_cons (dv 4) da_nil)) de_int) (de_bin op_mulA pd_mul de_int (de_ix (dv 0) de_int (fun _ _ => rfl))))) de_int) da_nil)) (dv 1))))))))
theorem b__law_take (T : Tx K mg fn fa fdf) : Binds K (fdf 18) [Str.ofString "pot", Str.ofString "upto"] [] := FunD.bindsN (T.d 18 (dd "_law_take" 28) rfl) fun _ _ _ _ _ _ us hl => match us, hl with | [_, _], _ => rfl
theorem k__law_take (T : Tx K mg fn fa fdf) : PySem.W.keepIn K (.ref (He.ga K "_law_take")) = true := (T.d 18 (dd "_law_take" 28) rfl).kp
def N__law_cells : List Str := [Str.ofString "script", Str.ofString "limit"]
def g__law_cells : SM := (sRet (dRg1 false (dCW maxQ (aCons (eC (.t (.int 1))) (aCons (dCW minQ (aCons (eVar 1) (aCons (dCW lenP (aCons (eVar 0) aNil)) aNil))) aNil)))))
def F__law_cells : List D → M D := runF false 2 g__law_cells
theorem sc__law_cells : FnScope N__law_cells [Str.ofString "script", Str.ofString "limit"] (defScope (top 30)) := ⟨rfl, rfl, rfl, by decide +kernel, rfl, by decide +kernel, by decide +kernel⟩
theorem ok__law_cells (T : Tx K mg fn fa fdf) : FnG P w K mg base 1 (He.ga K "_law_cells") (fdf 20) [Str.ofString "script", Str.ofString "limit"] F__law_cells :=
  fn_g false (T.d 20 (dd "_law_cells" 30) rfl) sc__law_cells fun cdv A outer s H E WE hr hgd tk =>
    (ds_one (ds_ret (de_rg1 false rfl (m_list T) rfl (m_range T) (de_bw (call_maxQ rfl hr.units) pw_maxQ rfl (m_max T) v_max (da_cons de_int (da_cons (de_bw (call_minQ rfl hr.units) pw_minQ rfl (m_min T) v_min (da_cons (dv 1) (da_cons (de_bw call_len pw_len rfl (m_len T) v_len (da_cons (dv 0) da_nil)) da_nil))) da_nil))))))
theorem b__law_cells (T : Tx K mg fn fa fdf) : Binds K (fdf 20) [Str.ofString "script", Str.ofString "limit"] [] := FunD.bindsN (T.d 20 (dd "_law_cells" 30) rfl) fun _ _ _ _ _ _ us hl => match us, hl with | [_, _], _ => rfl
theorem k__law_cells (T : Tx K mg fn fa fdf) : PySem.W.keepIn K (.ref (He.ga K "_law_cells")) = true := (T.d 20 (dd "_law_cells" 30) rfl).kp
def N__law_turns : List Str := [Str.ofString "row", Str.ofString "at"]
def g__law_turns : SM := (sRet (dLc false (iRg1 (aCons (dCW lenP (aCons (eVar 0) aNil)) aNil)) (gN 1) tYesD (dBin addP (dSl false (eVar 0) (oSome (eVar 1)) oNone) (dSl false (eVar 0) oNone (oSome (eVar 1)))) [1]))
def F__law_turns : List D → M D := runF false 2 g__law_turns
theorem sc__law_turns : FnScope N__law_turns [Str.ofString "row"] (defScope (top 32)) := ⟨rfl, rfl, rfl, by decide +kernel, rfl, by decide +kernel, by decide +kernel⟩
theorem ok__law_turns (T : Tx K mg fn fa fdf) : FnG P w K mg base 1 (He.ga K "_law_turns") (fdf 22) [Str.ofString "row"] F__law_turns :=
  fn_g false (T.d 22 (dd "_law_turns" 32) rfl) sc__law_turns fun cdv A outer s H E WE hr hgd tk =>
    (ds_one (ds_ret (de_lc false (own := [(Str.ofString "at", 1)]) rfl sc__law_turns.nd (di_rg1 rfl (m_range T) (da_cons (de_bw call_len pw_len rfl (m_len T) v_len (da_cons (dv 0) da_nil)) da_nil)) (blkOk_by (by kernel_rfl)) (fun _ _ _ _ _ => (dgn 1 sc__law_turns.nd)) (fun _ _ _ _ _ => dts_nil) (fun _ _ _ _ _ => (de_bin op_addA pd_add (de_sl false (dv 0) (do_some (dv 1)) do_none) (de_sl false (dv 0) do_none (do_some (dv 1))))) (by decide))))
theorem b__law_turns (T : Tx K mg fn fa fdf) : Binds K (fdf 22) [Str.ofString "row"] [] := FunD.bindsN (T.d 22 (dd "_law_turns" 32) rfl) fun _ _ _ _ _ _ us hl => match us, hl with | [_], _ => rfl
theorem k__law_turns (T : Tx K mg fn fa fdf) : PySem.W.keepIn K (.ref (He.ga K "_law_turns")) = true := (T.d 22 (dd "_law_turns" 32) rfl).kp
def N_check_row : List Str := [Str.ofString "value"]
def g_check_row : SM := (sIf (tNotD (dTru (dCall F_is_row_of (aCons (eVar 0) aNil)))) sNever sNext)
def F_check_row : List D → M D := runF false 1 g_check_row
theorem sc_check_row : FnScope N_check_row [Str.ofString "value"] (defScope (top 9)) := ⟨rfl, rfl, rfl, by decide +kernel, rfl, by decide +kernel, by decide +kernel⟩
theorem ok_check_row (T : Tx K mg fn fa fdf) : FnG P w K mg base 2 (He.ga K "check_row") (fdf 1) [Str.ofString "value"] F_check_row :=
  fn_g false (T.d 1 (dd "check_row" 9) rfl) sc_check_row fun cdv A outer s H E WE hr hgd tk =>
    (ds_one (ds_if (dt_not (dt_tru (de_call (ok_is_row_of T) (hr.mono (by decide)) hgd rfl (m_is_row_of T) (k_is_row_of T) (b_is_row_of T) tk (da_cons (dv 0) da_nil) (anum_cons anum_nil)))) (ds_one ds_never) ds_nil))
theorem b_check_row (T : Tx K mg fn fa fdf) : Binds K (fdf 1) [Str.ofString "value"] [] := FunD.bindsN (T.d 1 (dd "check_row" 9) rfl) fun _ _ _ _ _ _ us hl => match us, hl with | [_], _ => rfl
theorem k_check_row (T : Tx K mg fn fa fdf) : PySem.W.keepIn K (.ref (He.ga K "check_row")) = true := (T.d 1 (dd "check_row" 9) rfl).kp
def N_borders_of : List Str := [Str.ofString "row", Str.ofString "lengths", Str.ofString "found", Str.ofString "here"]
def g_borders_of : SM := (sSeq (sIf (dTest (dBin eqP (eVar 0) (eC (.t (.str (Str.ofString "")))))) (sRet (dLst false aNil)) sNext) (sSeq (sPar 1 2 (aCons (dCall F_border_lengths (aCons (eVar 0) aNil)) (aCons (dLst true aNil) aNil))) (sSeq (sSet 3 (dIx ixP (eVar 1) (dUn negP (eC (.t (.int 1)))))) (sSeq (sWhile fu (dTest (dBin gtP (eVar 3) (eC (.t (.int 0))))) (sSeq (sDrop (dApp (eVar 2) (eVar 3))) (sSet 3 (dIx ixP (eVar 1) (dBin subP (eVar 3) (eC (.t (.int 1)))))))) (sRet (dBin addP (dLst false (aCons (eC (.t (.int 0))) aNil)) (dRevA false (eVar 2))))))))
def F_borders_of : List D → M D := runF false 4 g_borders_of
theorem sc_borders_of : FnScope N_borders_of [Str.ofString "row"] (defScope (top 11)) := ⟨rfl, rfl, rfl, by decide +kernel, rfl, by decide +kernel, by decide +kernel⟩
theorem ok_borders_of (T : Tx K mg fn fa fdf) : FnG P w K mg base 2 (He.ga K "borders_of") (fdf 3) [Str.ofString "row"] F_borders_of :=
  fn_g false (T.d 3 (dd "borders_of" 11) rfl) sc_borders_of fun cdv A outer s H E WE hr hgd tk =>
    (ds_cons (ds_if (dt_cmp (op_eqA hr.units) pd_eq (dv 0) de_str (nomark _)) (ds_one (ds_ret (de_lst false da_nil))) ds_nil) (ds_cons (ds_par (i := 1) (j := 2) rfl sc_borders_of.nd rfl rfl (by decide) rfl rfl (da_cons (de_call (ok_border_lengths T) (hr.mono (by decide)) hgd rfl (m_border_lengths T) (k_border_lengths T) (b_border_lengths T) tk (da_cons (dv 0) da_nil) (anum_cons anum_nil)) (da_cons (de_lst true da_nil) da_nil)) rfl) (ds_cons (dset 3 sc_borders_of.nd (de_ix (dv 1) (de_un un_neg pu_neg de_int) (fun _ _ => rfl))) (ds_cons (ds_while fu (passes_of rfl) (dt_cmp op_gtA pd_gt (dv 3) de_int (nomark _)) (ds_cons (ds_expr (de_app (dv 2) (dv 3))) (ds_one (dset 3 sc_borders_of.nd (de_ix (dv 1) (de_bin op_sub pd_sub (dv 3) de_int) (fun _ _ => rfl)))))) (ds_one (ds_ret (de_bin op_addA pd_add (de_lst false (da_cons de_int da_nil)) (de_revA false (dv 2)))))))))
theorem b_borders_of (T : Tx K mg fn fa fdf) : Binds K (fdf 3) [Str.ofString "row"] [] := FunD.bindsN (T.d 3 (dd "borders_of" 11) rfl) fun _ _ _ _ _ _ us hl => match us, hl with | [_], _ => rfl
theorem k_borders_of (T : Tx K mg fn fa fdf) : PySem.W.keepIn K (.ref (He.ga K "borders_of")) = true := (T.d 3 (dd "borders_of" 11) rfl).kp
def N_ring_by : List Str := [Str.ofString "row"]
def g_ring_by : SM := (sRet (dCall F_turned_by (aCons (eVar 0) (aCons (dCall F_least_turn (aCons (eVar 0) aNil)) aNil))))
def F_ring_by : List D → M D := runF false 1 g_ring_by
theorem sc_ring_by : FnScope N_ring_by [Str.ofString "row"] (defScope (top 18)) := ⟨rfl, rfl, rfl, by decide +kernel, rfl, by decide +kernel, by decide +kernel⟩
theorem ok_ring_by (T : Tx K mg fn fa fdf) : FnG P w K mg base 2 (He.ga K "ring_by") (fdf 9) [Str.ofString "row"] F_ring_by :=
  fn_g false (T.d 9 (dd "ring_by" 18) rfl) sc_ring_by fun cdv A outer s H E WE hr hgd tk =>
    (ds_one (ds_ret (de_call (ok_turned_by T) (hr.mono (by decide)) hgd rfl (m_turned_by T) (k_turned_by T) (b_turned_by T) tk (da_cons (dv 0) (da_cons (de_call (ok_least_turn T) (hr.mono (by decide)) hgd rfl (m_least_turn T) (k_least_turn T) (b_least_turn T) tk (da_cons (dv 0) da_nil) (anum_cons anum_nil)) da_nil)) (anum_cons (anum_cons anum_nil)))))
theorem b_ring_by (T : Tx K mg fn fa fdf) : Binds K (fdf 9) [Str.ofString "row"] [] := FunD.bindsN (T.d 9 (dd "ring_by" 18) rfl) fun _ _ _ _ _ _ us hl => match us, hl with | [_], _ => rfl
theorem k_ring_by (T : Tx K mg fn fa fdf) : PySem.W.keepIn K (.ref (He.ga K "ring_by")) = true := (T.d 9 (dd "ring_by" 18) rfl).kp
def N__law_of : List Str := [Str.ofString "pot", Str.ofString "some"]
def g__law_of : SM := (sRet (dIx ixP (eVar 1) (dCall F__law_take (aCons (eVar 0) (aCons (dCW lenP (aCons (eVar 1) aNil)) aNil)))))
def F__law_of : List D → M D := runF false 2 g__law_of
theorem sc__law_of : FnScope N__law_of [Str.ofString "pot", Str.ofString "some"] (defScope (top 29)) := ⟨rfl, rfl, rfl, by decide +kernel, rfl, by decide +kernel, by decide +kernel⟩
theorem ok__law_of (T : Tx K mg fn fa fdf) : FnG P w K mg base 2 (He.ga K "_law_of") (fdf 19) [Str.ofString "pot", Str.ofString "some"] F__law_of :=
  fn_g false (T.d 19 (dd "_law_of" 29) rfl) sc__law_of fun cdv A outer s H E WE hr hgd tk =>
    (ds_one (ds_ret (de_ix (dv 1) (de_call (ok__law_take T) (hr.mono (by decide)) hgd rfl (m__law_take T) (k__law_take T) (b__law_take T) tk (da_cons (dv 0) (da_cons (de_bw call_len pw_len rfl (m_len T) v_len (da_cons (dv 1) da_nil)) da_nil)) (anum_cons (anum_cons anum_nil))) (fun _ _ => rfl))))
theorem b__law_of (T : Tx K mg fn fa fdf) : Binds K (fdf 19) [Str.ofString "pot", Str.ofString "some"] [] := FunD.bindsN (T.d 19 (dd "_law_of" 29) rfl) fun _ _ _ _ _ _ us hl => match us, hl with | [_, _], _ => rfl
theorem k__law_of (T : Tx K mg fn fa fdf) : PySem.W.keepIn K (.ref (He.ga K "_law_of")) = true := (T.d 19 (dd "_law_of" 29) rfl).kp
def N__law_leads : List Str := [Str.ofString "row", Str.ofString "turn"]
def g__law_leads : SM := (sRet (dAnd (dBin neP (eVar 0) (eC (.t (.str (Str.ofString ""))))) (dCW allP (aCons (dLc false (iAny (dSl false (dCall F__law_turns (aCons (eVar 0) aNil)) (oSome (eC (.t (.int 1)))) oNone)) (gN 1) tYesD (dBin ltP (eVar 0) (eVar 1)) [1]) aNil))))
def F__law_leads : List D → M D := runF false 2 g__law_leads
theorem sc__law_leads : FnScope N__law_leads [Str.ofString "row"] (defScope (top 33)) := ⟨rfl, rfl, rfl, by decide +kernel, rfl, by decide +kernel, by decide +kernel⟩
theorem ok__law_leads (T : Tx K mg fn fa fdf) : FnG P w K mg base 2 (He.ga K "_law_leads") (fdf 23) [Str.ofString "row"] F__law_leads :=
  fn_g false (T.d 23 (dd "_law_leads" 33) rfl) sc__law_leads fun cdv A outer s H E WE hr hgd tk =>
    (ds_one (ds_ret (de_and (de_cmp (op_neA hr.units) pd_ne (dv 0) de_str (nomark _)) (de_one (de_bw (cr_all rfl) pw_all rfl (m_all T) v_all (da_cons (de_lc false (own := [(Str.ofString "turn", 1)]) rfl sc__law_leads.nd (di_any (de_sl false (de_call (ok__law_turns T) (hr.mono (by decide)) hgd rfl (m__law_turns T) (k__law_turns T) (b__law_turns T) tk (da_cons (dv 0) da_nil) (anum_cons anum_nil)) (do_some de_int) do_none)) (blkOk_by (by kernel_rfl)) (fun _ _ _ _ _ => (dgn 1 sc__law_leads.nd)) (fun _ _ _ _ _ => dts_nil) (fun _ _ _ _ _ => (de_cmp op_ltA pd_lt (dv 0) (dv 1) (nomark _))) (by decide)) da_nil))))))
theorem b__law_leads (T : Tx K mg fn fa fdf) : Binds K (fdf 23) [Str.ofString "row"] [] := FunD.bindsN (T.d 23 (dd "_law_leads" 33) rfl) fun _ _ _ _ _ _ us hl => match us, hl with | [_], _ => rfl
theorem k__law_leads (T : Tx K mg fn fa fdf) : PySem.W.keepIn K (.ref (He.ga K "_law_leads")) = true := (T.d 23 (dd "_law_leads" 33) rfl).kp
def N__law_cut : List Str := [Str.ofString "pot", Str.ofString "row", Str.ofString "found", Str.ofString "long"]
def g__law_cut : SM := (sSeq (sSet 2 (dLst true aNil)) (sSeq (sWhile fu (dTest (dBin neP (eVar 1) (eC (.t (.str (Str.ofString "")))))) (sSeq (sSet 3 (dBin addP (eC (.t (.int 1))) (dCall F__law_take (aCons (eVar 0) (aCons (dCW lenP (aCons (eVar 1) aNil)) aNil))))) (sSeq (sDrop (dApp (eVar 2) (dSl false (eVar 1) oNone (oSome (eVar 3))))) (sSet 1 (dSl false (eVar 1) (oSome (eVar 3)) oNone))))) (sRet (dCW tupP (aCons (eVar 2) aNil)))))
def F__law_cut : List D → M D := runF false 4 g__law_cut
theorem sc__law_cut : FnScope N__law_cut [Str.ofString "pot", Str.ofString "row"] (defScope (top 35)) := ⟨rfl, rfl, rfl, by decide +kernel, rfl, by decide +kernel, by decide +kernel⟩
theorem ok__law_cut (T : Tx K mg fn fa fdf) : FnG P w K mg base 2 (He.ga K "_law_cut") (fdf 25) [Str.ofString "pot", Str.ofString "row"] F__law_cut :=
  fn_g false (T.d 25 (dd "_law_cut" 35) rfl) sc__law_cut fun cdv A outer s H E WE hr hgd tk =>
    (ds_cons (dset 2 sc__law_cut.nd (de_lst true da_nil)) (ds_cons (ds_while fu (passes_of rfl) (dt_cmp (op_neA hr.units) pd_ne (dv 1) de_str (nomark _)) (ds_cons (dset 3 sc__law_cut.nd (de_bin op_addA pd_add de_int (de_call (ok__law_take T) (hr.mono (by decide)) hgd rfl (m__law_take T) (k__law_take T) (b__law_take T) tk (da_cons (dv 0) (da_cons (de_bw call_len pw_len rfl (m_len T) v_len (da_cons (dv 1) da_nil)) da_nil)) (anum_cons (anum_cons anum_nil))))) (ds_cons (ds_expr (de_app (dv 2) (de_sl false (dv 1) do_none (do_some (dv 3))))) (ds_one (dset 1 sc__law_cut.nd (de_sl false (dv 1) (do_some (dv 3)) do_none)))))) (ds_one (ds_ret (de_tw call_tuple_of pw_tup rfl (m_tuple T) v_tuple (da_cons (dv 2) da_nil))))))
theorem b__law_cut (T : Tx K mg fn fa fdf) : Binds K (fdf 25) [Str.ofString "pot", Str.ofString "row"] [] := FunD.bindsN (T.d 25 (dd "_law_cut" 35) rfl) fun _ _ _ _ _ _ us hl => match us, hl with | [_, _], _ => rfl
theorem k__law_cut (T : Tx K mg fn fa fdf) : PySem.W.keepIn K (.ref (He.ga K "_law_cut")) = true := (T.d 25 (dd "_law_cut" 35) rfl).kp
def N_periods_of : List Str := [Str.ofString "row", Str.ofString "border"]
def g_periods_of : SM := (sRet (dLc false (iAny (dRevA false (dCall F_borders_of (aCons (eVar 0) aNil)))) (gN 1) tYesD (dBin subP (dCW lenP (aCons (eVar 0) aNil)) (eVar 1)) [1]))
def F_periods_of : List D → M D := runF false 2 g_periods_of
theorem sc_periods_of : FnScope N_periods_of [Str.ofString "row"] (defScope (top 12)) := ⟨rfl, rfl, rfl, by decide +kernel, rfl, by decide +kernel, by decide +kernel⟩
theorem ok_periods_of (T : Tx K mg fn fa fdf) : FnG P w K mg base 3 (He.ga K "periods_of") (fdf 4) [Str.ofString "row"] F_periods_of :=
  fn_g false (T.d 4 (dd "periods_of" 12) rfl) sc_periods_of fun cdv A outer s H E WE hr hgd tk =>
    (ds_one (ds_ret (de_lc false (own := [(Str.ofString "border", 1)]) rfl sc_periods_of.nd (di_any (de_revA false (de_call (ok_borders_of T) (hr.mono (by decide)) hgd rfl (m_borders_of T) (k_borders_of T) (b_borders_of T) tk (da_cons (dv 0) da_nil) (anum_cons anum_nil)))) (blkOk_by (by kernel_rfl)) (fun _ _ _ _ _ => (dgn 1 sc_periods_of.nd)) (fun _ _ _ _ _ => dts_nil) (fun _ _ _ _ _ => (de_bin op_sub pd_sub (de_bw call_len pw_len rfl (m_len T) v_len (da_cons (dv 0) da_nil)) (dv 1))) (by decide))))
theorem b_periods_of (T : Tx K mg fn fa fdf) : Binds K (fdf 4) [Str.ofString "row"] [] := FunD.bindsN (T.d 4 (dd "periods_of" 12) rfl) fun _ _ _ _ _ _ us hl => match us, hl with | [_], _ => rfl
theorem k_periods_of (T : Tx K mg fn fa fdf) : PySem.W.keepIn K (.ref (He.ga K "periods_of")) = true := (T.d 4 (dd "periods_of" 12) rfl).kp
def N_check_full : List Str := [Str.ofString "row"]
def g_check_full : SM := (sSeq (sDrop (dCall F_check_row (aCons (eVar 0) aNil))) (sIf (dTest (dBin eqP (eVar 0) (eC (.t (.str (Str.ofString "")))))) sNever sNext))
def F_check_full : List D → M D := runF false 1 g_check_full
theorem sc_check_full : FnScope N_check_full [Str.ofString "row"] (defScope (top 15)) := ⟨rfl, rfl, rfl, by decide +kernel, rfl, by decide +kernel, by decide +kernel⟩
theorem ok_check_full (T : Tx K mg fn fa fdf) : FnG P w K mg base 3 (He.ga K "check_full") (fdf 6) [Str.ofString "row"] F_check_full :=
  fn_g false (T.d 6 (dd "check_full" 15) rfl) sc_check_full fun cdv A outer s H E WE hr hgd tk =>
    (ds_cons (ds_expr (de_call (ok_check_row T) (hr.mono (by decide)) hgd rfl (m_check_row T) (k_check_row T) (b_check_row T) tk (da_cons (dv 0) da_nil) (anum_cons anum_nil))) (ds_one (ds_if (dt_cmp (op_eqA hr.units) pd_eq (dv 0) de_str (nomark _)) (ds_one ds_never) ds_nil)))
theorem b_check_full (T : Tx K mg fn fa fdf) : Binds K (fdf 6) [Str.ofString "row"] [] := FunD.bindsN (T.d 6 (dd "check_full" 15) rfl) fun _ _ _ _ _ _ us hl => match us, hl with | [_], _ => rfl
theorem k_check_full (T : Tx K mg fn fa fdf) : PySem.W.keepIn K (.ref (He.ga K "check_full")) = true := (T.d 6 (dd "check_full" 15) rfl).kp
def N_factoring : List Str := [Str.ofString "row"]
def g_factoring : SM := (sSeq (sDrop (dCall F_check_row (aCons (eVar 0) aNil))) (sRet (dCW tupP (aCons (dCall F_factors_of (aCons (eVar 0) aNil)) aNil))))
def F_factoring : List D → M D := runF false 1 g_factoring
theorem sc_factoring : FnScope N_factoring [Str.ofString "row"] (defScope (top 24)) := ⟨rfl, rfl, rfl, by decide +kernel, rfl, by decide +kernel, by decide +kernel⟩
theorem ok_factoring (T : Tx K mg fn fa fdf) : FnG P w K mg base 3 (He.ga K "factoring") (fdf 15) [Str.ofString "row"] F_factoring :=
  fn_g false (T.d 15 (dd "factoring" 24) rfl) sc_factoring fun cdv A outer s H E WE hr hgd tk =>
    (ds_cons (ds_expr (de_call (ok_check_row T) (hr.mono (by decide)) hgd rfl (m_check_row T) (k_check_row T) (b_check_row T) tk (da_cons (dv 0) da_nil) (anum_cons anum_nil))) (ds_one (ds_ret (de_tw call_tuple_of pw_tup rfl (m_tuple T) v_tuple (da_cons (de_call (ok_factors_of T) (hr.mono (by decide)) hgd rfl (m_factors_of T) (k_factors_of T) (b_factors_of T) tk (da_cons (dv 0) da_nil) (anum_cons anum_nil)) da_nil)))))
theorem b_factoring (T : Tx K mg fn fa fdf) : Binds K (fdf 15) [Str.ofString "row"] [] := FunD.bindsN (T.d 15 (dd "factoring" 24) rfl) fun _ _ _ _ _ _ us hl => match us, hl with | [_], _ => rfl
theorem k_factoring (T : Tx K mg fn fa fdf) : PySem.W.keepIn K (.ref (He.ga K "factoring")) = true := (T.d 15 (dd "factoring" 24) rfl).kp
def N__law_row : List Str := [Str.ofString "pot", Str.ofString "signs", Str.ofString "low", Str.ofString "high", Str.ofString "lot", Str.ofString "lap"]
def g__law_row : SM := (sSeq (sSet 4 (dSl false (eC (.t (.str (Str.ofString "abcdef")))) oNone (oSome (eVar 1)))) (sRet (dM "str" joinP (eC (.t (.str (Str.ofString "")))) (aCons (dLc false (iRg1 (aCons (dBin addP (eVar 2) (dCall F__law_take (aCons (eVar 0) (aCons (dBin addP (dBin subP (eVar 3) (eVar 2)) (eC (.t (.int 1)))) aNil)))) aNil)) (gN 5) tYesD (dCall F__law_of (aCons (eVar 0) (aCons (dCN false listP (aCons (eVar 4) aNil)) aNil))) [5]) aNil))))
def F__law_row : List D → M D := runF false 6 g__law_row
theorem sc__law_row : FnScope N__law_row [Str.ofString "pot", Str.ofString "signs", Str.ofString "low", Str.ofString "high"] (defScope (top 31)) := ⟨rfl, rfl, rfl, by decide +kernel, rfl, by decide +kernel, by decide +kernel⟩
theorem ok__law_row (T : Tx K mg fn fa fdf) : FnG P w K mg base 3 (He.ga K "_law_row") (fdf 21) [Str.ofString "pot", Str.ofString "signs", Str.ofString "low", Str.ofString "high"] F__law_row :=
  fn_g false (T.d 21 (dd "_law_row" 31) rfl) sc__law_row fun cdv A outer s H E WE hr hgd tk =>
    (ds_cons (dset 4 sc__law_row.nd (de_sl false de_str do_none (do_some (dv 1)))) (ds_one (ds_ret (de_bm PySem.F.plainAttrs_str PySem.F.slot_str_join PySem.F.type_str_join mt_join pm_join de_str (da_cons (de_lc false (own := [(Str.ofString "lap", 5)]) rfl sc__law_row.nd (di_rg1 rfl (m_range T) (da_cons (de_bin op_addA pd_add (dv 2) (de_call (ok__law_take T) (hr.mono (by decide)) hgd rfl (m__law_take T) (k__law_take T) (b__law_take T) tk (da_cons (dv 0) (da_cons (de_bin op_addA pd_add (de_bin op_sub pd_sub (dv 3) (dv 2)) de_int) da_nil)) (anum_cons (anum_cons anum_nil)))) da_nil)) (blkOk_by (by kernel_rfl)) (fun _ _ _ _ _ => (dgn 5 sc__law_row.nd)) (fun _ _ _ _ _ => dts_nil) (fun _ _ _ _ _ => (de_call (ok__law_of T) (hr.mono (by decide)) hgd rfl (m__law_of T) (k__law_of T) (b__law_of T) takesF (da_cons (dv 0) (da_cons (de_tn false (call_listA rfl) pn_list rfl (m_list T) v_list (da_cons (dv 4) da_nil)) da_nil)) (anum_cons (anum_cons anum_nil)))) (by decide)) da_nil)))))
theorem b__law_row (T : Tx K mg fn fa fdf) : Binds K (fdf 21) [Str.ofString "pot", Str.ofString "signs", Str.ofString "low", Str.ofString "high"] [] := FunD.bindsN (T.d 21 (dd "_law_row" 31) rfl) fun _ _ _ _ _ _ us hl => match us, hl with | [_, _, _, _], _ => rfl
theorem k__law_row (T : Tx K mg fn fa fdf) : PySem.W.keepIn K (.ref (He.ga K "_law_row")) = true := (T.d 21 (dd "_law_row" 31) rfl).kp
def N__law_factors : List Str := [Str.ofString "row", Str.ofString "found", Str.ofString "long", Str.ofString "at"]
def g__law_factors : SM := (sSeq (sSet 1 (dLst true aNil)) (sSeq (sWhile fu (dTest (dBin neP (eVar 0) (eC (.t (.str (Str.ofString "")))))) (sSeq (sSet 2 (dCW maxQ (aCons (dLc false (iRg2 (aCons (eC (.t (.int 1))) (aCons (dBin addP (dCW lenP (aCons (eVar 0) aNil)) (eC (.t (.int 1)))) aNil))) (gN 3) (dTru (dCall F__law_leads (aCons (dSl false (eVar 0) oNone (oSome (eVar 3))) aNil))) (eVar 3) [3]) aNil))) (sSeq (sDrop (dApp (eVar 1) (dSl false (eVar 0) oNone (oSome (eVar 2))))) (sSet 0 (dSl false (eVar 0) (oSome (eVar 2)) oNone))))) (sRet (eVar 1))))
def F__law_factors : List D → M D := runF false 4 g__law_factors
theorem sc__law_factors : FnScope N__law_factors [Str.ofString "row"] (defScope (top 34)) := ⟨rfl, rfl, rfl, by decide +kernel, rfl, by decide +kernel, by decide +kernel⟩
theorem ok__law_factors (T : Tx K mg fn fa fdf) : FnG P w K mg base 3 (He.ga K "_law_factors") (fdf 24) [Str.ofString "row"] F__law_factors :=
  fn_g false (T.d 24 (dd "_law_factors" 34) rfl) sc__law_factors fun cdv A outer s H E WE hr hgd tk =>
    (ds_cons (dset 1 sc__law_factors.nd (de_lst true da_nil)) (ds_cons (ds_while fu (passes_of rfl) (dt_cmp (op_neA hr.units) pd_ne (dv 0) de_str (nomark _)) (ds_cons (dset 2 sc__law_factors.nd (de_bw (call_maxQ rfl hr.units) pw_maxQ rfl (m_max T) v_max (da_cons (de_lc false (own := [(Str.ofString "at", 3)]) rfl sc__law_factors.nd (di_rg2 rfl (m_range T) (da_cons de_int (da_cons (de_bin op_addA pd_add (de_bw call_len pw_len rfl (m_len T) v_len (da_cons (dv 0) da_nil)) de_int) da_nil))) (blkOk_by (by kernel_rfl)) (fun _ _ _ _ _ => (dgn 3 sc__law_factors.nd)) (fun _ _ _ _ _ => (dts_one (dt_tru (de_call (ok__law_leads T) (hr.mono (by decide)) hgd rfl (m__law_leads T) (k__law_leads T) (b__law_leads T) takesF (da_cons (de_sl false (dv 0) do_none (do_some (dv 3))) da_nil) (anum_cons anum_nil))))) (fun _ _ _ _ _ => (dv 3)) (by decide)) da_nil))) (ds_cons (ds_expr (de_app (dv 1) (de_sl false (dv 0) do_none (do_some (dv 2))))) (ds_one (dset 0 sc__law_factors.nd (de_sl false (dv 0) (do_some (dv 2)) do_none)))))) (ds_one (ds_ret (dv 1)))))
theorem b__law_factors (T : Tx K mg fn fa fdf) : Binds K (fdf 24) [Str.ofString "row"] [] := FunD.bindsN (T.d 24 (dd "_law_factors" 34) rfl) fun _ _ _ _ _ _ us hl => match us, hl with | [_], _ => rfl
theorem k__law_factors (T : Tx K mg fn fa fdf) : PySem.W.keepIn K (.ref (He.ga K "_law_factors")) = true := (T.d 24 (dd "_law_factors" 34) rfl).kp
def N_root_by : List Str := [Str.ofString "row", Str.ofString "least"]
def g_root_by : SM := (sSeq (sSet 1 (dIx ixP (dCall F_periods_of (aCons (eVar 0) aNil)) (eC (.t (.int 0))))) (sRet (dIf (dTest (dBin eqP (dBin modP (dCW lenP (aCons (eVar 0) aNil)) (eVar 1)) (eC (.t (.int 0))))) (dSl false (eVar 0) oNone (oSome (eVar 1))) (eVar 0))))
def F_root_by : List D → M D := runF false 2 g_root_by
theorem sc_root_by : FnScope N_root_by [Str.ofString "row"] (defScope (top 16)) := ⟨rfl, rfl, rfl, by decide +kernel, rfl, by decide +kernel, by decide +kernel⟩
theorem ok_root_by (T : Tx K mg fn fa fdf) : FnG P w K mg base 4 (He.ga K "root_by") (fdf 7) [Str.ofString "row"] F_root_by :=
  fn_g false (T.d 7 (dd "root_by" 16) rfl) sc_root_by fun cdv A outer s H E WE hr hgd tk =>
    (ds_cons (dset 1 sc_root_by.nd (de_ix (de_call (ok_periods_of T) (hr.mono (by decide)) hgd rfl (m_periods_of T) (k_periods_of T) (b_periods_of T) tk (da_cons (dv 0) da_nil) (anum_cons anum_nil)) de_int (fun _ _ => rfl))) (ds_one (ds_ret (de_if (dt_cmp (op_eqA hr.units) pd_eq (de_bin op_mod pd_mod (de_bw call_len pw_len rfl (m_len T) v_len (da_cons (dv 0) da_nil)) (dv 1)) de_int (nomark _)) (de_sl false (dv 0) do_none (do_some (dv 1))) (dv 0)))))
theorem b_root_by (T : Tx K mg fn fa fdf) : Binds K (fdf 7) [Str.ofString "row"] [] := FunD.bindsN (T.d 7 (dd "root_by" 16) rfl) fun _ _ _ _ _ _ us hl => match us, hl with | [_], _ => rfl
theorem k_root_by (T : Tx K mg fn fa fdf) : PySem.W.keepIn K (.ref (He.ga K "root_by")) = true := (T.d 7 (dd "root_by" 16) rfl).kp
def N_ring_of : List Str := [Str.ofString "row"]
def g_ring_of : SM := (sSeq (sDrop (dCall F_check_full (aCons (eVar 0) aNil))) (sRet (dCall F_ring_by (aCons (eVar 0) aNil))))
def F_ring_of : List D → M D := runF false 1 g_ring_of
theorem sc_ring_of : FnScope N_ring_of [Str.ofString "row"] (defScope (top 19)) := ⟨rfl, rfl, rfl, by decide +kernel, rfl, by decide +kernel, by decide +kernel⟩
theorem ok_ring_of (T : Tx K mg fn fa fdf) : FnG P w K mg base 4 (He.ga K "ring_of") (fdf 10) [Str.ofString "row"] F_ring_of :=
  fn_g false (T.d 10 (dd "ring_of" 19) rfl) sc_ring_of fun cdv A outer s H E WE hr hgd tk =>
    (ds_cons (ds_expr (de_call (ok_check_full T) (hr.mono (by decide)) hgd rfl (m_check_full T) (k_check_full T) (b_check_full T) tk (da_cons (dv 0) da_nil) (anum_cons anum_nil))) (ds_one (ds_ret (de_call (ok_ring_by T) (hr.mono (by decide)) hgd rfl (m_ring_by T) (k_ring_by T) (b_ring_by T) tk (da_cons (dv 0) da_nil) (anum_cons anum_nil)))))
theorem b_ring_of (T : Tx K mg fn fa fdf) : Binds K (fdf 10) [Str.ofString "row"] [] := FunD.bindsN (T.d 10 (dd "ring_of" 19) rfl) fun _ _ _ _ _ _ us hl => match us, hl with | [_], _ => rfl
theorem k_ring_of (T : Tx K mg fn fa fdf) : PySem.W.keepIn K (.ref (He.ga K "ring_of")) = true := (T.d 10 (dd "ring_of" 19) rfl).kp
def N_root_of : List Str := [Str.ofString "row"]
def g_root_of : SM := (sSeq (sDrop (dCall F_check_full (aCons (eVar 0) aNil))) (sRet (dCall F_root_by (aCons (eVar 0) aNil))))
def F_root_of : List D → M D := runF false 1 g_root_of
theorem sc_root_of : FnScope N_root_of [Str.ofString "row"] (defScope (top 20)) := ⟨rfl, rfl, rfl, by decide +kernel, rfl, by decide +kernel, by decide +kernel⟩
theorem ok_root_of (T : Tx K mg fn fa fdf) : FnG P w K mg base 5 (He.ga K "root_of") (fdf 11) [Str.ofString "row"] F_root_of :=
  fn_g false (T.d 11 (dd "root_of" 20) rfl) sc_root_of fun cdv A outer s H E WE hr hgd tk =>
    (ds_cons (ds_expr (de_call (ok_check_full T) (hr.mono (by decide)) hgd rfl (m_check_full T) (k_check_full T) (b_check_full T) tk (da_cons (dv 0) da_nil) (anum_cons anum_nil))) (ds_one (ds_ret (de_call (ok_root_by T) (hr.mono (by decide)) hgd rfl (m_root_by T) (k_root_by T) (b_root_by T) tk (da_cons (dv 0) da_nil) (anum_cons anum_nil)))))
theorem b_root_of (T : Tx K mg fn fa fdf) : Binds K (fdf 11) [Str.ofString "row"] [] := FunD.bindsN (T.d 11 (dd "root_of" 20) rfl) fun _ _ _ _ _ _ us hl => match us, hl with | [_], _ => rfl
theorem k_root_of (T : Tx K mg fn fa fdf) : PySem.W.keepIn K (.ref (He.ga K "root_of")) = true := (T.d 11 (dd "root_of" 20) rfl).kp
def N_is_leading_of : List Str := [Str.ofString "row"]
def g_is_leading_of : SM := (sRet (dAnd (dBin eqP (dCall F_root_by (aCons (eVar 0) aNil)) (eVar 0)) (dBin eqP (dCall F_least_turn (aCons (eVar 0) aNil)) (eC (.t (.int 0))))))
def F_is_leading_of : List D → M D := runF false 1 g_is_leading_of
theorem sc_is_leading_of : FnScope N_is_leading_of [Str.ofString "row"] (defScope (top 21)) := ⟨rfl, rfl, rfl, by decide +kernel, rfl, by decide +kernel, by decide +kernel⟩
theorem ok_is_leading_of (T : Tx K mg fn fa fdf) : FnG P w K mg base 5 (He.ga K "is_leading_of") (fdf 12) [Str.ofString "row"] F_is_leading_of :=
  fn_g false (T.d 12 (dd "is_leading_of" 21) rfl) sc_is_leading_of fun cdv A outer s H E WE hr hgd tk =>
    (ds_one (ds_ret (de_and (de_cmp (op_eqA hr.units) pd_eq (de_call (ok_root_by T) (hr.mono (by decide)) hgd rfl (m_root_by T) (k_root_by T) (b_root_by T) tk (da_cons (dv 0) da_nil) (anum_cons anum_nil)) (dv 0) (nomark _)) (de_one (de_cmp (op_eqA hr.units) pd_eq (de_call (ok_least_turn T) (hr.mono (by decide)) hgd rfl (m_least_turn T) (k_least_turn T) (b_least_turn T) tk (da_cons (dv 0) da_nil) (anum_cons anum_nil)) de_int (nomark _))))))
theorem b_is_leading_of (T : Tx K mg fn fa fdf) : Binds K (fdf 12) [Str.ofString "row"] [] := FunD.bindsN (T.d 12 (dd "is_leading_of" 21) rfl) fun _ _ _ _ _ _ us hl => match us, hl with | [_], _ => rfl
theorem k_is_leading_of (T : Tx K mg fn fa fdf) : PySem.W.keepIn K (.ref (He.ga K "is_leading_of")) = true := (T.d 12 (dd "is_leading_of" 21) rfl).kp
def N_is_leading : List Str := [Str.ofString "value"]
def g_is_leading : SM := (sRet (dAnd (dCall F_is_row_of (aCons (eVar 0) aNil)) (dAnd (dBin neP (eVar 0) (eC (.t (.str (Str.ofString ""))))) (dCall F_is_leading_of (aCons (eVar 0) aNil)))))
def F_is_leading : List D → M D := runF false 1 g_is_leading
theorem sc_is_leading : FnScope N_is_leading [Str.ofString "value"] (defScope (top 22)) := ⟨rfl, rfl, rfl, by decide +kernel, rfl, by decide +kernel, by decide +kernel⟩
theorem ok_is_leading (T : Tx K mg fn fa fdf) : FnG P w K mg base 6 (He.ga K "is_leading") (fdf 13) [Str.ofString "value"] F_is_leading :=
  fn_g false (T.d 13 (dd "is_leading" 22) rfl) sc_is_leading fun cdv A outer s H E WE hr hgd tk =>
    (ds_one (ds_ret (de_and (de_call (ok_is_row_of T) (hr.mono (by decide)) hgd rfl (m_is_row_of T) (k_is_row_of T) (b_is_row_of T) tk (da_cons (dv 0) da_nil) (anum_cons anum_nil)) (de_and (de_cmp (op_neA hr.units) pd_ne (dv 0) de_str (nomark _)) (de_one (de_call (ok_is_leading_of T) (hr.mono (by decide)) hgd rfl (m_is_leading_of T) (k_is_leading_of T) (b_is_leading_of T) tk (da_cons (dv 0) da_nil) (anum_cons anum_nil)))))))
theorem b_is_leading (T : Tx K mg fn fa fdf) : Binds K (fdf 13) [Str.ofString "value"] [] := FunD.bindsN (T.d 13 (dd "is_leading" 22) rfl) fun _ _ _ _ _ _ us hl => match us, hl with | [_], _ => rfl
theorem k_is_leading (T : Tx K mg fn fa fdf) : PySem.W.keepIn K (.ref (He.ga K "is_leading")) = true := (T.d 13 (dd "is_leading" 22) rfl).kp
def N_is_factoring : List Str := [Str.ofString "row", Str.ofString "value", Str.ofString "one", Str.ofString "other"]
def g_is_factoring : SM := (sSeq (sDrop (dCall F_check_row (aCons (eVar 0) aNil))) (sSeq (sIf (tOrD (tNotD (dTru (dIsi "tuple" (eVar 1)))) (tNotD (dTru (dCW allP (aCons (dLc false (iAny (eVar 1)) (gN 2) tYesD (dCall F_is_leading (aCons (eVar 2) aNil)) [2]) aNil))))) (sRet (eC (.t (.bool false)))) sNext) (sRet (dAnd (dBin eqP (dM "str" joinP (eC (.t (.str (Str.ofString "")))) (aCons (eVar 1) aNil)) (eVar 0)) (dCW allP (aCons (dLc false (iZip (aCons (eVar 1) (aCons (dSl false (eVar 1) (oSome (eC (.t (.int 1)))) oNone) aNil))) (gT 2 (gsCons (gN 2) (gsCons (gN 3) gsNil))) tYesD (dBin geP (eVar 2) (eVar 3)) [2, 3]) aNil))))))
def F_is_factoring : List D → M D := runF false 4 g_is_factoring
theorem sc_is_factoring : FnScope N_is_factoring [Str.ofString "row", Str.ofString "value"] (defScope (top 25)) := ⟨rfl, rfl, rfl, by decide +kernel, rfl, by decide +kernel, by decide +kernel⟩
theorem ok_is_factoring (T : Tx K mg fn fa fdf) : FnG P w K mg base 7 (He.ga K "is_factoring") (fdf 16) [Str.ofString "row", Str.ofString "value"] F_is_factoring :=
  fn_g false (T.d 16 (dd "is_factoring" 25) rfl) sc_is_factoring fun cdv A outer s H E WE hr hgd tk =>
    (ds_cons (ds_expr (de_call (ok_check_row T) (hr.mono (by decide)) hgd rfl (m_check_row T) (k_check_row T) (b_check_row T) tk (da_cons (dv 0) da_nil) (anum_cons anum_nil))) (ds_cons (ds_if (dt_w (dw_or (dt_not (dt_tru (de_isi "tuple" (by decide +kernel) rfl (m_isinstance T) (pe_bltn (v := .ty "tuple") rfl (m_tuple T) v_tuple rfl) (dv 1)))) (dw_or1 (dt_not (dt_tru (de_bw (cr_all rfl) pw_all rfl (m_all T) v_all (da_cons (de_lc false (own := [(Str.ofString "one", 2)]) rfl sc_is_factoring.nd (di_any (dv 1)) (blkOk_by (by kernel_rfl)) (fun _ _ _ _ _ => (dgn 2 sc_is_factoring.nd)) (fun _ _ _ _ _ => dts_nil) (fun _ _ _ _ _ => (de_call (ok_is_leading T) (hr.mono (by decide)) hgd rfl (m_is_leading T) (k_is_leading T) (b_is_leading T) takesF (da_cons (dv 2) da_nil) (anum_cons anum_nil))) (by decide)) da_nil))))))) (ds_one (ds_ret de_bl)) ds_nil) (ds_one (ds_ret (de_and (de_cmp (op_eqA hr.units) pd_eq (de_bm PySem.F.plainAttrs_str PySem.F.slot_str_join PySem.F.type_str_join mt_join pm_join de_str (da_cons (dv 1) da_nil)) (dv 0) (nomark _)) (de_one (de_bw (cr_all rfl) pw_all rfl (m_all T) v_all (da_cons (de_lc false (own := [(Str.ofString "one", 2), (Str.ofString "other", 3)]) rfl sc_is_factoring.nd (di_zip rfl (m_zip T) (da_cons (dv 1) (da_cons (de_sl false (dv 1) (do_some de_int) do_none) da_nil))) (blkOk_by (by kernel_rfl)) (fun _ _ _ _ _ => (dg_tup rfl (dgs_cons (dgn 2 sc_is_factoring.nd) (dgs_cons (dgn 3 sc_is_factoring.nd) dgs_nil)))) (fun _ _ _ _ _ => dts_nil) (fun _ _ _ _ _ => (de_cmp op_geA pd_ge (dv 2) (dv 3) (nomark _))) (by decide)) da_nil))))))))
theorem b_is_factoring (T : Tx K mg fn fa fdf) : Binds K (fdf 16) [Str.ofString "row", Str.ofString "value"] [] := FunD.bindsN (T.d 16 (dd "is_factoring" 25) rfl) fun _ _ _ _ _ _ us hl => match us, hl with | [_, _], _ => rfl
theorem k_is_factoring (T : Tx K mg fn fa fdf) : PySem.W.keepIn K (.ref (He.ga K "is_factoring")) = true := (T.d 16 (dd "is_factoring" 25) rfl).kp
def g_kb_is_leading_0_value : List D → List D → List D := fun us ws => match us, ws with | [], [b0] => [b0] | _, _ => []
theorem kb_is_leading_0_value (T : Tx K mg fn fa fdf) : KB (fdf 13) [Str.ofString "value"] [Str.ofString "value"] 0 (fun us ws => match us, ws with | [], [b0] => [b0] | _, _ => []) (fun us ws => match us, ws with | [], [b0] => [b0] | _, _ => []) g_kb_is_leading_0_value where
  to := kw_binds (T.d 13 (dd "is_leading" 22) rfl) fun _ _ _ _ _ _ us ws h1 h2 => match us, ws, h1, h2 with | [], [_], _, _ => ⟨rfl, rfl⟩
  rel := fun {vs us zs ws} l1 l2 h1 h2 => match vs, us, zs, ws, l1, l2, h1, h2 with | [], [], [_], [_], _, _, .nil, .cons s0 .nil => .cons s0 .nil
  drs := fun {_ _ _ _ as bs vs zs} l1 l2 h1 h2 => match as, bs, vs, zs, l1, l2, h1, h2 with | _, _, [], [_], _, _, .nil, .cons s0 .nil => .cons s0 .nil
def g_kb_is_factoring_0_row_value : List D → List D → List D := fun us ws => match us, ws with | [], [b0, b1] => [b0, b1] | _, _ => []
theorem kb_is_factoring_0_row_value (T : Tx K mg fn fa fdf) : KB (fdf 16) [Str.ofString "row", Str.ofString "value"] [Str.ofString "row", Str.ofString "value"] 0 (fun us ws => match us, ws with | [], [b0, b1] => [b0, b1] | _, _ => []) (fun us ws => match us, ws with | [], [b0, b1] => [b0, b1] | _, _ => []) g_kb_is_factoring_0_row_value where
  to := kw_binds (T.d 16 (dd "is_factoring" 25) rfl) fun _ _ _ _ _ _ us ws h1 h2 => match us, ws, h1, h2 with | [], [_, _], _, _ => ⟨rfl, rfl⟩
  rel := fun {vs us zs ws} l1 l2 h1 h2 => match vs, us, zs, ws, l1, l2, h1, h2 with | [], [], [_, _], [_, _], _, _, .nil, .cons s0 (.cons s1 .nil) => .cons s0 (.cons s1 .nil)
  drs := fun {_ _ _ _ as bs vs zs} l1 l2 h1 h2 => match as, bs, vs, zs, l1, l2, h1, h2 with | _, _, [], [_, _], _, _, .nil, .cons s0 (.cons s1 .nil) => .cons s0 (.cons s1 .nil)
def g_kb_factoring_0_row : List D → List D → List D := fun us ws => match us, ws with | [], [b0] => [b0] | _, _ => []
theorem kb_factoring_0_row (T : Tx K mg fn fa fdf) : KB (fdf 15) [Str.ofString "row"] [Str.ofString "row"] 0 (fun us ws => match us, ws with | [], [b0] => [b0] | _, _ => []) (fun us ws => match us, ws with | [], [b0] => [b0] | _, _ => []) g_kb_factoring_0_row where
  to := kw_binds (T.d 15 (dd "factoring" 24) rfl) fun _ _ _ _ _ _ us ws h1 h2 => match us, ws, h1, h2 with | [], [_], _, _ => ⟨rfl, rfl⟩
  rel := fun {vs us zs ws} l1 l2 h1 h2 => match vs, us, zs, ws, l1, l2, h1, h2 with | [], [], [_], [_], _, _, .nil, .cons s0 .nil => .cons s0 .nil
  drs := fun {_ _ _ _ as bs vs zs} l1 l2 h1 h2 => match as, bs, vs, zs, l1, l2, h1, h2 with | _, _, [], [_], _, _, .nil, .cons s0 .nil => .cons s0 .nil
def N__law_right : List Str := [Str.ofString "pot", Str.ofString "row", Str.ofString "factors", Str.ofString "value", Str.ofString "due", Str.ofString "ends", Str.ofString "some", Str.ofString "lap", Str.ofString "at", Str.ofString "one", Str.ofString "other"]
def g__law_right : SM := (sSeq (sSet 1 (dCall F__law_row (aCons (eVar 0) (aCons (dCW intP (aCons (dBin addP (eC (.t (.int 1))) (dCall F__law_take (aCons (eVar 0) (aCons (eC (.t (.int 3))) aNil)))) aNil)) (aCons (eC (.t (.int 0))) (aCons (eC (.t (.int 12))) aNil)))))) (sSeq (sSet 1 (dCall F__law_of (aCons (eVar 0) (aCons (dLst false (aCons (eVar 1) (aCons (eVar 1) (aCons (dRevA false (eVar 1)) (aCons (dM "str" joinP (eC (.t (.str (Str.ofString "")))) (aCons (dCN false sortR (aCons (eVar 1) aNil)) aNil)) (aCons (dRevA false (dM "str" joinP (eC (.t (.str (Str.ofString "")))) (aCons (dCN false sortR (aCons (eVar 1) aNil)) aNil))) (aCons (dBin mulP (dSl false (eVar 1) oNone (oSome (eC (.t (.int 3))))) (eC (.t (.int 4)))) aNil))))))) aNil)))) (sSeq (sSet 2 (dCW tupP (aCons (dCall F__law_factors (aCons (eVar 1) aNil)) aNil))) (sSeq (sIf (tOrD (dTest (dBin neP (dCB reprP (aCons (dCallK F_factoring g_kb_factoring_0_row aNil (aCons (eVar 1) aNil)) aNil)) (dCB reprP (aCons (eVar 2) aNil)))) (tOrD (dTest (dBin isNotP (dCallK F_is_factoring g_kb_is_factoring_0_row_value aNil (aCons (eVar 1) (aCons (eVar 2) aNil))) (eC (.t (.bool true))))) (dTest (dBin isNotP (dCall F_is_factoring (aCons (eVar 1) (aCons (dCN false listP (aCons (eVar 2) aNil)) aNil))) (eC (.t (.bool false))))))) (sRet (eC (.t (.bool false)))) sNext) (sSeq (sIf (tOrD (dTest (dBin neP (dM "str" joinP (eC (.t (.str (Str.ofString "")))) (aCons (eVar 2) aNil)) (eVar 1))) (tNotD (dTru (dCW allP (aCons (dLc false (iZip (aCons (eVar 2) (aCons (dSl false (eVar 2) (oSome (eC (.t (.int 1)))) oNone) aNil))) (gT 2 (gsCons (gN 9) (gsCons (gN 10) gsNil))) tYesD (dBin geP (eVar 9) (eVar 10)) [9, 10]) aNil))))) (sRet (eC (.t (.bool false)))) sNext) (sSeq (sFor (iAny (dBin addP (dLc false (iRg1 (aCons (eC (.t (.int 4))) aNil)) (gN 7) tYesD (dCall F__law_cut (aCons (eVar 0) (aCons (eVar 1) aNil))) [7]) (dLst false (aCons (dBin addP (eVar 2) (dTup (aCons (eC (.t (.str (Str.ofString "")))) aNil))) (aCons (dRevA false (eVar 2)) (aCons (dTup (aCons (eVar 1) aNil)) (aCons (eC (.t .none)) (aCons (dTup aNil) (aCons (dSl false (eVar 2) oNone (oSome (dUn negP (eC (.t (.int 1)))))) (aCons (dTup (aCons (eC (.t (.int 7))) aNil)) aNil)))))))))) (gN 3) (sSeq (sSet 4 (dAnd (dIsi "tuple" (eVar 3)) (dBin eqP (eVar 3) (eVar 2)))) (sIf (dTest (dBin neP (dCB reprP (aCons (dCall F_is_factoring (aCons (eVar 1) (aCons (eVar 3) aNil))) aNil)) (dCB reprP (aCons (eVar 4) aNil)))) (sRet (eC (.t (.bool false)))) sNext))) (sSeq (sIf (dTest (dBin neP (eVar 1) (eC (.t (.str (Str.ofString "")))))) (sSeq (sSet 5 (dLc false (iRg1 (aCons (dCW lenP (aCons (eVar 1) aNil)) aNil)) (gN 8) tYesD (dSl false (eVar 1) (oSome (eVar 8)) oNone) [8])) (sSeq (sIf (tOrD (dTest (dBin neP (dIx ixP (eVar 2) (dUn negP (eC (.t (.int 1))))) (dCW minQ (aCons (eVar 5) aNil)))) (dTest (dBin isNotP (dCallK F_is_leading g_kb_is_leading_0_value aNil (aCons (dCall F_ring_of (aCons (dCall F_root_of (aCons (eVar 1) aNil)) aNil)) aNil)) (eC (.t (.bool true)))))) (sRet (eC (.t (.bool false)))) sNext) (sIf (dTest (dBin neP (dCall F_factoring (aCons (dIx ixP (eVar 2) (eC (.t (.int 0)))) aNil)) (dTup (aCons (dIx ixP (eVar 2) (eC (.t (.int 0)))) aNil)))) (sRet (eC (.t (.bool false)))) sNext))) sNext) (sSeq (sSet 6 (dLst false (aCons (eVar 1) (aCons (dSl false (eVar 1) oNone (oSome (eC (.t (.int 4))))) (aCons (dBin addP (eVar 1) (eVar 1)) (aCons (dRevA false (eVar 1)) (aCons (eC (.t (.str (Str.ofString "")))) (aCons (eC (.t .none)) (aCons (eC (.t (.int 7))) (aCons (dBin addP (dM "str" upP (eVar 1) aNil) (eC (.t (.str (Str.ofString "A"))))) aNil)))))))))) (sRet (dBin eqP (dLc false (iAny (eVar 6)) (gN 3) tYesD (dCB reprP (aCons (dCall F_is_leading (aCons (eVar 3) aNil)) aNil)) [3]) (dLc false (iAny (eVar 6)) (gN 3) tYesD (dCB reprP (aCons (dAnd (dIsi "str" (eVar 3)) (dAnd (dBin eqP (eVar 3) (dM "str" lowP (eVar 3) aNil)) (dCall F__law_leads (aCons (eVar 3) aNil)))) aNil)) [3])))))))))))
def F__law_right : List D → M D := runF false 11 g__law_right
theorem sc__law_right : FnScope N__law_right [Str.ofString "pot"] (defScope (top 36)) := ⟨rfl, rfl, rfl, by decide +kernel, rfl, by decide +kernel, by decide +kernel⟩
theorem ok__law_right (T : Tx K mg fn fa fdf) : FnG P w K mg base 8 (He.ga K "_law_right") (fdf 26) [Str.ofString "pot"] F__law_right :=
  fn_g false (T.d 26 (dd "_law_right" 36) rfl) sc__law_right fun cdv A outer s H E WE hr hgd tk =>
    (ds_cons (dset 1 sc__law_right.nd (de_call (ok__law_row T) (hr.mono (by decide)) hgd rfl (m__law_row T) (k__law_row T) (b__law_row T) tk (da_cons (dv 0) (da_cons (de_tw call_int1 pw_int rfl (m_int T) v_int (da_cons (de_bin op_addA pd_add de_int (de_call (ok__law_take T) (hr.mono (by decide)) hgd rfl (m__law_take T) (k__law_take T) (b__law_take T) tk (da_cons (dv 0) (da_cons de_int da_nil)) (anum_cons (anum_cons anum_nil)))) da_nil)) (da_cons de_int (da_cons de_int da_nil)))) (anum_cons (anum_cons (anum_cons (anum_cons anum_nil)))))) (ds_cons (dset 1 sc__law_right.nd (de_call (ok__law_of T) (hr.mono (by decide)) hgd rfl (m__law_of T) (k__law_of T) (b__law_of T) tk (da_cons (dv 0) (da_cons (de_lst false (da_cons (dv 1) (da_cons (dv 1) (da_cons (de_revA false (dv 1)) (da_cons (de_bm PySem.F.plainAttrs_str PySem.F.slot_str_join PySem.F.type_str_join mt_join pm_join de_str (da_cons (de_bn false (call_sortR rfl) pn_sortR rfl (m_sorted T) v_sorted (da_cons (dv 1) da_nil)) da_nil)) (da_cons (de_revA false (de_bm PySem.F.plainAttrs_str PySem.F.slot_str_join PySem.F.type_str_join mt_join pm_join de_str (da_cons (de_bn false (call_sortR rfl) pn_sortR rfl (m_sorted T) v_sorted (da_cons (dv 1) da_nil)) da_nil))) (da_cons (de_bin op_mulA pd_mul (de_sl false (dv 1) do_none (do_some de_int)) de_int) da_nil))))))) da_nil)) (anum_cons (anum_cons anum_nil)))) (ds_cons (dset 2 sc__law_right.nd (de_tw call_tuple_of pw_tup rfl (m_tuple T) v_tuple (da_cons (de_call (ok__law_factors T) (hr.mono (by decide)) hgd rfl (m__law_factors T) (k__law_factors T) (b__law_factors T) tk (da_cons (dv 1) da_nil) (anum_cons anum_nil)) da_nil))) (ds_cons (ds_if (dt_w (dw_or (dt_cmp (op_neA hr.units) pd_ne (de_callB (call_reprA hgd (hu70 hr)) pc_repr rfl (m_repr T) v_repr (da_cons (de_callK0 (ok_factoring T) (hr.mono (by decide)) hgd rfl (m_factoring T) (k_factoring T) (kb_factoring_0_row T) tk (dk_cons (dv 1) dk_nil) (anum_cons anum_nil)) da_nil)) (de_callB (call_reprA hgd (hu70 hr)) pc_repr rfl (m_repr T) v_repr (da_cons (dv 2) da_nil)) (nomark _)) (dw_or (dt_cmp op_isNotA pd_isNot (de_callK0 (ok_is_factoring T) (hr.mono (by decide)) hgd rfl (m_is_factoring T) (k_is_factoring T) (kb_is_factoring_0_row_value T) tk (dk_cons (dv 1) (dk_cons (dv 2) dk_nil)) (anum_cons (anum_cons anum_nil))) de_bl (nomark _)) (dw_or1 (dt_cmp op_isNotA pd_isNot (de_call (ok_is_factoring T) (hr.mono (by decide)) hgd rfl (m_is_factoring T) (k_is_factoring T) (b_is_factoring T) tk (da_cons (dv 1) (da_cons (de_tn false (call_listA rfl) pn_list rfl (m_list T) v_list (da_cons (dv 2) da_nil)) da_nil)) (anum_cons (anum_cons anum_nil))) de_bl (nomark _)))))) (ds_one (ds_ret de_bl)) ds_nil) (ds_cons (ds_if (dt_w (dw_or (dt_cmp (op_neA hr.units) pd_ne (de_bm PySem.F.plainAttrs_str PySem.F.slot_str_join PySem.F.type_str_join mt_join pm_join de_str (da_cons (dv 2) da_nil)) (dv 1) (nomark _)) (dw_or1 (dt_not (dt_tru (de_bw (cr_all rfl) pw_all rfl (m_all T) v_all (da_cons (de_lc false (own := [(Str.ofString "one", 9), (Str.ofString "other", 10)]) rfl sc__law_right.nd (di_zip rfl (m_zip T) (da_cons (dv 2) (da_cons (de_sl false (dv 2) (do_some de_int) do_none) da_nil))) (blkOk_by (by kernel_rfl)) (fun _ _ _ _ _ => (dg_tup rfl (dgs_cons (dgn 9 sc__law_right.nd) (dgs_cons (dgn 10 sc__law_right.nd) dgs_nil)))) (fun _ _ _ _ _ => dts_nil) (fun _ _ _ _ _ => (de_cmp op_geA pd_ge (dv 9) (dv 10) (nomark _))) (by decide)) da_nil))))))) (ds_one (ds_ret de_bl)) ds_nil) (ds_cons (ds_for (passes_of rfl) rfl (di_any (de_bin op_addA pd_add (de_lc false (own := [(Str.ofString "lap", 7)]) rfl sc__law_right.nd (di_rg1 rfl (m_range T) (da_cons de_int da_nil)) (blkOk_by (by kernel_rfl)) (fun _ _ _ _ _ => (dgn 7 sc__law_right.nd)) (fun _ _ _ _ _ => dts_nil) (fun _ _ _ _ _ => (de_call (ok__law_cut T) (hr.mono (by decide)) hgd rfl (m__law_cut T) (k__law_cut T) (b__law_cut T) takesF (da_cons (dv 0) (da_cons (dv 1) da_nil)) (anum_cons (anum_cons anum_nil)))) (by decide)) (de_lst false (da_cons (de_bin op_addA pd_add (dv 2) (de_tup (da_cons de_str da_nil))) (da_cons (de_revA false (dv 2)) (da_cons (de_tup (da_cons (dv 1) da_nil)) (da_cons de_non (da_cons (de_tup da_nil) (da_cons (de_sl false (dv 2) do_none (do_some (de_un un_neg pu_neg de_int))) (da_cons (de_tup (da_cons de_int da_nil)) da_nil)))))))))) (dgn 3 sc__law_right.nd) (ds_cons (dset 4 sc__law_right.nd (de_and (de_isi "tuple" (by decide +kernel) rfl (m_isinstance T) (pe_bltn (v := .ty "tuple") rfl (m_tuple T) v_tuple rfl) (dv 3)) (de_one (de_cmp (op_eqA hr.units) pd_eq (dv 3) (dv 2) (nomark _))))) (ds_one (ds_if (dt_cmp (op_neA hr.units) pd_ne (de_callB (call_reprA hgd (hu70 hr)) pc_repr rfl (m_repr T) v_repr (da_cons (de_call (ok_is_factoring T) (hr.mono (by decide)) hgd rfl (m_is_factoring T) (k_is_factoring T) (b_is_factoring T) tk (da_cons (dv 1) (da_cons (dv 3) da_nil)) (anum_cons (anum_cons anum_nil))) da_nil)) (de_callB (call_reprA hgd (hu70 hr)) pc_repr rfl (m_repr T) v_repr (da_cons (dv 4) da_nil)) (nomark _)) (ds_one (ds_ret de_bl)) ds_nil)))) (ds_cons (ds_if (dt_cmp (op_neA hr.units) pd_ne (dv 1) de_str (nomark _)) (ds_cons (ds_setLc false (own := [(Str.ofString "at", 8)]) rfl sc__law_right.nd rfl rfl (sw_true rfl rfl rfl (by decide +kernel)) (di_rg1 rfl (m_range T) (da_cons (de_bw call_len pw_len rfl (m_len T) v_len (da_cons (dv 1) da_nil)) da_nil)) (blkOk_by (by kernel_rfl)) (fun _ _ _ _ _ => (dgn 8 sc__law_right.nd)) (fun _ _ _ _ _ => dts_nil) (fun _ _ _ _ _ => (de_sl false (dv 1) (do_some (dv 8)) do_none)) (by decide)) (ds_cons (ds_if (dt_w (dw_or (dt_cmp (op_neA hr.units) pd_ne (de_ix (dv 2) (de_un un_neg pu_neg de_int) (fun _ _ => rfl)) (de_bw (call_minQ rfl hr.units) pw_minQ rfl (m_min T) v_min (da_cons (dv 5) da_nil)) (nomark _)) (dw_or1 (dt_cmp op_isNotA pd_isNot (de_callK0 (ok_is_leading T) (hr.mono (by decide)) hgd rfl (m_is_leading T) (k_is_leading T) (kb_is_leading_0_value T) tk (dk_cons (de_call (ok_ring_of T) (hr.mono (by decide)) hgd rfl (m_ring_of T) (k_ring_of T) (b_ring_of T) tk (da_cons (de_call (ok_root_of T) (hr.mono (by decide)) hgd rfl (m_root_of T) (k_root_of T) (b_root_of T) tk (da_cons (dv 1) da_nil) (anum_cons anum_nil)) da_nil) (anum_cons anum_nil)) dk_nil) (anum_cons anum_nil)) de_bl (nomark _))))) (ds_one (ds_ret de_bl)) ds_nil) (ds_one (ds_if (dt_cmp (op_neA hr.units) pd_ne (de_call (ok_factoring T) (hr.mono (by decide)) hgd rfl (m_factoring T) (k_factoring T) (b_factoring T) tk (da_cons (de_ix (dv 2) de_int (fun _ _ => rfl)) da_nil) (anum_cons anum_nil)) (de_tup (da_cons (de_ix (dv 2) de_int (fun _ _ => rfl)) da_nil)) (nomark _)) (ds_one (ds_ret de_bl)) ds_nil)))) ds_nil) (ds_cons (dset 6 sc__law_right.nd (de_lst false (da_cons (dv 1) (da_cons (de_sl false (dv 1) do_none (do_some de_int)) (da_cons (de_bin op_addA pd_add (dv 1) (dv 1)) (da_cons (de_revA false (dv 1)) (da_cons de_str (da_cons de_non (da_cons de_int (da_cons (de_bin op_addA pd_add (de_bm0 PySem.F.plainAttrs_str PySem.F.slot_str_upper PySem.F.type_str_upper mt_upper pm_up (dv 1)) de_str) da_nil)))))))))) (ds_one (ds_ret (de_cmp (op_eqA hr.units) pd_eq (de_lc false (own := [(Str.ofString "value", 3)]) rfl sc__law_right.nd (di_any (dv 6)) (blkOk_by (by kernel_rfl)) (fun _ _ _ _ _ => (dgn 3 sc__law_right.nd)) (fun _ _ _ _ _ => dts_nil) (fun _ _ _ _ _ => (de_callB (call_reprA hgd (hu70 hr)) pc_repr rfl (m_repr T) v_repr (da_cons (de_call (ok_is_leading T) (hr.mono (by decide)) hgd rfl (m_is_leading T) (k_is_leading T) (b_is_leading T) takesF (da_cons (dv 3) da_nil) (anum_cons anum_nil)) da_nil))) (by decide)) (de_lc false (own := [(Str.ofString "value", 3)]) rfl sc__law_right.nd (di_any (dv 6)) (blkOk_by (by kernel_rfl)) (fun _ _ _ _ _ => (dgn 3 sc__law_right.nd)) (fun _ _ _ _ _ => dts_nil) (fun _ _ _ _ _ => (de_callB (call_reprA hgd (hu70 hr)) pc_repr rfl (m_repr T) v_repr (da_cons (de_and (de_isi "str" (by decide +kernel) rfl (m_isinstance T) (pe_bltn (v := .ty "str") rfl (m_str T) v_str rfl) (dv 3)) (de_and (de_cmp (op_eqA hr.units) pd_eq (dv 3) (de_bm0 PySem.F.plainAttrs_str PySem.F.slot_str_lower PySem.F.type_str_lower mt_lower pm_low (dv 3)) (nomark _)) (de_one (de_call (ok__law_leads T) (hr.mono (by decide)) hgd rfl (m__law_leads T) (k__law_leads T) (b__law_leads T) takesF (da_cons (dv 3) da_nil) (anum_cons anum_nil))))) da_nil))) (by decide)) (nomark _))))))))))))
theorem b__law_right (T : Tx K mg fn fa fdf) : Binds K (fdf 26) [Str.ofString "pot"] [] := FunD.bindsN (T.d 26 (dd "_law_right" 36) rfl) fun _ _ _ _ _ _ us hl => match us, hl with | [_], _ => rfl
theorem k__law_right (T : Tx K mg fn fa fdf) : PySem.W.keepIn K (.ref (He.ga K "_law_right")) = true := (T.d 26 (dd "_law_right" 36) rfl).kp
def N_law : List Str := [Str.ofString "script", Str.ofString "place", Str.ofString "pot", Str.ofString "lap"]
def g_law : SM := (sSeq (sFor (iAny (dCall F__law_cells (aCons (eVar 0) (aCons (eC (.t (.int 3))) aNil)))) (gN 1) (sSeq (sSet 2 (dCall F__law_pot (aCons (eVar 0) (aCons (eVar 1) aNil)))) (sIf (tNotD (dTru (dCW allP (aCons (dLc false (iRg1 (aCons (eC (.t (.int 4))) aNil)) (gN 3) tYesD (dCall F__law_right (aCons (eVar 2) aNil)) [3]) aNil)))) (sRet (eC (.t (.bool false)))) sNext))) (sRet (eC (.t (.bool true)))))
def F_law : List D → M D := runF false 4 g_law
theorem sc_law : FnScope N_law [Str.ofString "script"] (defScope (top 37)) := ⟨rfl, rfl, rfl, by decide +kernel, rfl, by decide +kernel, by decide +kernel⟩
theorem ok_law (T : Tx K mg fn fa fdf) : FnG P w K mg base 9 (He.ga K "law") (fdf 27) [Str.ofString "script"] F_law :=
  fn_g false (T.d 27 (dd "law" 37) rfl) sc_law fun cdv A outer s H E WE hr hgd tk =>
    (ds_cons (ds_for (passes_of rfl) rfl (di_any (de_call (ok__law_cells T) (hr.mono (by decide)) hgd rfl (m__law_cells T) (k__law_cells T) (b__law_cells T) tk (da_cons (dv 0) (da_cons de_int da_nil)) (anum_cons (anum_cons anum_nil)))) (dgn 1 sc_law.nd) (ds_cons (dset 2 sc_law.nd (de_call (ok__law_pot T) (hr.mono (by decide)) hgd rfl (m__law_pot T) (k__law_pot T) (b__law_pot T) tk (da_cons (dv 0) (da_cons (dv 1) da_nil)) (anum_cons (anum_cons anum_nil)))) (ds_one (ds_if (dt_not (dt_tru (de_bw (cr_all rfl) pw_all rfl (m_all T) v_all (da_cons (de_lc false (own := [(Str.ofString "lap", 3)]) rfl sc_law.nd (di_rg1 rfl (m_range T) (da_cons de_int da_nil)) (blkOk_by (by kernel_rfl)) (fun _ _ _ _ _ => (dgn 3 sc_law.nd)) (fun _ _ _ _ _ => dts_nil) (fun _ _ _ _ _ => (de_call (ok__law_right T) (hr.mono (by decide)) hgd rfl (m__law_right T) (k__law_right T) (b__law_right T) takesF (da_cons (dv 2) da_nil) (anum_cons anum_nil))) (by decide)) da_nil)))) (ds_one (ds_ret de_bl)) ds_nil)))) (ds_one (ds_ret de_bl)))
theorem b_law (T : Tx K mg fn fa fdf) : Binds K (fdf 27) [Str.ofString "script"] [] := FunD.bindsN (T.d 27 (dd "law" 37) rfl) fun _ _ _ _ _ _ us hl => match us, hl with | [_], _ => rfl
theorem k_law (T : Tx K mg fn fa fdf) : PySem.W.keepIn K (.ref (He.ga K "law")) = true := (T.d 27 (dd "law" 37) rfl).kp
end
end Lw
set_option Elab.async false
set_option linter.all false
set_option maxRecDepth 100000
set_option maxHeartbeats 2000000
namespace Lw
open PySem PySem.Spec L2 DL
open PyProof.Rows hiding St
def AZ : List Nat := [97,98,99,100,101,102,103,104,105,106,107,108,109,110,111,112,113,114,115,116,117,118,119,120,121,122]
theorem az : Str.ofString "abcdefghijklmnopqrstuvwxyz" = tx AZ := by decide +kernel
def isRow : PyData → Bool
  | .str x => decide (x.length ≤ 400) && x.cps.toList.all (fun c => decide (c ∈ AZ))
  | _ => false
theorem fm_some {α β : Type} (f : α → β) (l : List α) : l.filterMap (fun x => some (f x)) = l.map f := by simp
theorem e_is_row_of (d : PyData) (h : Hd) (hd : ∀ x, d = .str x → x.length ≤ sizeLine) : F_is_row_of [.t d] h = some (.ok (.t (.bool (isRow d))) h) := by
  cases d with
  | str x =>
    have hx : x.length ≤ 16777216 := hd x rfl
    by_cases h4 : x.length ≤ 400
    · have lc := lc_pure (S := [some (.t (.str x)), none]) (h := h) (m := iAny (eVar 0)) (f := gN 1) (t := tYesD) (e := dBin inSP (eVar 1) (eC (.t (.str (Str.ofString "abcdefghijklmnopqrstuvwxyz"))))) (own := [1]) (xs := x.cps.toList) (enc := fun c => .str (tx [c])) (fun c => some (.bool (decide (c ∈ AZ)))) (by simp [iAny, signsP]) (by simpa [Str.length] using hx) (by
        intro c hc acc
        simp [az, inSP])
      have h5 : (x.length : Int) ≤ 400 := by omega
      rw [fm_some] at lc
      simp [F_is_row_of, g_is_row_of, hx, h5, lc, all_map, isRow, h4]
    · have h5 : ¬ (x.length : Int) ≤ 400 := by omega
      simp [F_is_row_of, g_is_row_of, hx, h5, h4, isRow]
  | _ => simp [F_is_row_of, g_is_row_of, isRow]
theorem e_check_row (x : Str) (h : Hd) (hd : isRow (.str x) = true) : F_check_row [.t (.str x)] h = some (.ok (.t .none) h) := by
  have hx : x.length ≤ 400 := by simp [isRow] at hd; exact hd.1
  simp [F_check_row, g_check_row, e_is_row_of (.str x) h (by intro y e; cases e; have : sizeLine = 16777216 := rfl; omega), hd]
/-! pieces of texts -/
theorem tx_len (w : List Nat) : (tx w).length = w.length := by simp [Str.length]
theorem cut_tx (w : List Nat) (lo hi : Option Int) : cutS (tx w) lo hi = tx (cutP w lo hi) := by
  simp [cutS, cutP, Str.length]
theorem cut_ab (w : List Nat) (a b : Nat) : cutP w (some (a : Int)) (some (b : Int)) = (w.drop a).take (b - a) := by
  unfold cutP
  rw [HT.sIx_nat, HT.sIx_nat]
  by_cases ha : a ≤ w.length
  · rw [Nat.min_eq_left ha]
    by_cases hb : b ≤ w.length
    · rw [Nat.min_eq_left hb]
    · rw [Nat.min_eq_right (by omega), List.take_of_length_le (by simp), List.take_of_length_le (by simp only [List.length_drop]; omega)]
  · rw [Nat.min_eq_right (show w.length ≤ a by omega), List.drop_eq_nil_of_le (by omega), List.drop_eq_nil_of_le (by omega)]
    simp
theorem cut_to (w : List Nat) (b : Nat) : cutP w none (some (b : Int)) = w.take b := by
  unfold cutP
  rw [HT.sIx_nat, HT.sIx_none]
  by_cases hb : b ≤ w.length
  · rw [Nat.min_eq_left hb]; simp
  · rw [Nat.min_eq_right (by omega)]; simp [List.take_of_length_le, show w.length ≤ b by omega]
theorem cut_from (w : List Nat) (a : Nat) : cutP w (some (a : Int)) none = w.drop a := by
  unfold cutP
  rw [HT.sIx_nat, HT.sIx_none]
  by_cases ha : a ≤ w.length
  · rw [Nat.min_eq_left ha, List.take_of_length_le (by simp)]
  · rw [Nat.min_eq_right (show w.length ≤ a by omega), List.drop_eq_nil_of_le (by omega), List.drop_eq_nil_of_le (by omega)]
    simp
theorem sh_int (a : Int) : SeqAt.shaped (.int a) = true := by simp [SeqAt.shaped, PyData.canLay0, PyData.depth]
theorem sh_bool (a : Bool) : SeqAt.shaped (.bool a) = true := by simp [SeqAt.shaped, PyData.canLay0, PyData.depth]
@[simp] theorem eq_ss (a b : Str) : eqP (.str a) (.str b) = some (.bool (decide (a = b))) := rfl
@[simp] theorem ne_ss (a b : Str) : neP (.str a) (.str b) = some (.bool (!decide (a = b))) := rfl
@[simp] theorem eq_ii (a b : Int) : eqP (.int a) (.int b) = some (.bool (decide (a = b))) := by
  simp [eqP, sh_int, PyData.eqv]; rfl
@[simp] theorem ne_ii (a b : Int) : neP (.int a) (.int b) = some (.bool (!decide (a = b))) := by
  simp [neP, sh_int, PyData.eqv]; rfl
theorem tx_inj {a b : List Nat} : tx a = tx b ↔ a = b := by
  constructor
  · intro h; have := congrArg (fun s : Str => s.cps.toList) h; simpa using this
  · intro h; rw [h]
theorem atI_nat {α : Type} {xs : List α} {i : Nat} (h : i < xs.length) : atI xs (i : Int) = some xs[i] := by
  have h' : (i : Int) < xs.length := by omega
  simp [atI, ixN, h', List.getElem?_eq_getElem h]
theorem atI_int {α : Type} {xs : List α} {i : Int} {n : Nat} (e : i = (n : Int)) (h : n < xs.length) : atI xs i = some xs[n] := by rw [e, atI_nat h]
theorem tx_add (a b : List Nat) : tx a ++ tx b = tx (a ++ b) := by
  show (⟨_⟩ : Str) = _
  simp
/-! loops -/
theorem whileN_run {γ : Type} {t : DS → M Bool} {b : SM} (S : γ → DS) (h : γ → Hd) (I : γ → Prop) (c : γ → Bool) (μ : γ → Nat) (ht : ∀ x, I x → t (S x) (h x) = some (.ok (c x) (h x))) (hb : ∀ x, I x → c x = true → ∃ y, b (S x) (h x) = some (.nx, S y, h y) ∧ I y ∧ μ y < μ x) : ∀ (n : Nat) (x : γ), I x → μ x < n → ∃ y, whileN t b n (S x) (h x) = some (.nx, S y, h y) ∧ I y ∧ c y = false
  | 0, x, _, hn => absurd hn (Nat.not_lt_zero _)
  | n + 1, x, hx, hn => by
    cases e : c x with
    | false => exact ⟨x, by simp [whileN, ht x hx, e], hx, e⟩
    | true =>
      obtain ⟨y, e1, i1, m1⟩ := hb x hx e
      obtain ⟨z, e2, i2, c2⟩ := whileN_run S h I c μ ht hb n y i1 (by omega)
      exact ⟨z, by simp [whileN, ht x hx, e, e1, e2], i2, c2⟩
theorem forL_inv {f : PyData → DS → Option DS} {b : SM} (I : Nat → DS → Hd → Prop) : ∀ (xs : List PyData) (i : Nat) (S : DS) (h : Hd), I i S h → (∀ j x S h, xs[j]? = some x → I (i + j) S h → ∃ S1 S2 h2, f x S = some S1 ∧ b S1 h = some (.nx, S2, h2) ∧ I (i + j + 1) S2 h2) → ∃ S2 h2, forL f b xs S h = some (.nx, S2, h2) ∧ I (i + xs.length) S2 h2
  | [], i, S, h, hi, _ => ⟨S, h, rfl, hi⟩
  | x :: xs, i, S, h, hi, hs => by
    obtain ⟨S1, S2, h2, e1, e2, i2⟩ := hs 0 x S h rfl hi
    obtain ⟨S3, h3, e3, i3⟩ := forL_inv I xs (i + 1) S2 h2 i2 (fun j y T k e q => by
      obtain ⟨a, b', c, p, q', r⟩ := hs (j + 1) y T k e (by rw [show i + (j + 1) = i + 1 + j by omega]; exact q)
      exact ⟨a, b', c, p, q', by rw [show i + (j + 1) + 1 = i + 1 + j + 1 by omega] at r; exact r⟩)
    exact ⟨S3, h3, by simp [forL, e1, e2, e3], by rw [List.length_cons, show i + (xs.length + 1) = i + 1 + xs.length by omega]; exact i3⟩
theorem fu_eq : fu = 1099511627776 := rfl
/-! common_of -/
def comN : List Nat → List Nat → Nat
  | a :: as, b :: bs => if a = b then comN as bs + 1 else 0
  | _, _ => 0
theorem com_le : ∀ a b : List Nat, comN a b ≤ a.length ∧ comN a b ≤ b.length
  | [], b => by simp [comN]
  | _ :: _, [] => by simp [comN]
  | a :: as, b :: bs => by
    have := com_le as bs
    simp only [comN]
    split <;> simp <;> omega
theorem com_lt : ∀ (a b : List Nat) (k : Nat) (h1 : k < a.length) (h2 : k < b.length), k < comN a b → a[k] = b[k]
  | [], b, k, h1, _, _ => by simp at h1
  | _ :: _, [], k, _, h2, _ => by simp at h2
  | a :: as, b :: bs, k, h1, h2, h => by
    simp only [comN] at h
    split at h
    · cases k with
      | zero => simpa
      | succ k => simpa using com_lt as bs k (by simpa using h1) (by simpa using h2) (by omega)
    · omega
theorem com_at : ∀ (a b : List Nat) (h1 : comN a b < a.length) (h2 : comN a b < b.length), a[comN a b] ≠ b[comN a b]
  | [], b, h1, _ => by simp at h1
  | _ :: _, [], _, h2 => by simp at h2
  | a :: as, b :: bs, h1, h2 => by
    by_cases e : a = b
    · have e2 : comN (a :: as) (b :: bs) = comN as bs + 1 := by simp [comN, e]
      have := com_at as bs (by simp [e2] at h1; exact h1) (by simp [e2] at h2; exact h2)
      simpa [e2] using this
    · have e2 : comN (a :: as) (b :: bs) = 0 := by simp [comN, e]
      simpa [e2] using e
def ch (w : List Nat) (i : Nat) : Nat := w.getD i 0
theorem at_ch {w : List Nat} {i : Nat} (h : i < w.length) : atI w (i : Int) = some (ch w i) := by
  rw [atI_nat h]; simp [ch, h]
/-- j is a border of the first m signs -/
def Bo (w : List Nat) (m j : Nat) : Prop := j < m ∧ ∀ i, i < j → ch w i = ch w (m - j + i)
def Pi (w : List Nat) (m k : Nat) : Prop := Bo w m k ∧ ∀ j, Bo w m j → j ≤ k
theorem bo0 {w : List Nat} {m : Nat} (h : 0 < m) : Bo w m 0 := ⟨h, fun i hi => absurd hi (Nat.not_lt_zero _)⟩
theorem bo_suc {w : List Nat} {m j : Nat} : Bo w (m + 1) (j + 1) ↔ Bo w m j ∧ ch w j = ch w m := by
  constructor
  · rintro ⟨h1, h2⟩
    refine ⟨⟨by omega, fun i hi => ?_⟩, ?_⟩
    · have := h2 i (by omega)
      rwa [show m + 1 - (j + 1) + i = m - j + i by omega] at this
    · have := h2 j (by omega)
      rwa [show m + 1 - (j + 1) + j = m by omega] at this
  · rintro ⟨⟨h1, h2⟩, h3⟩
    refine ⟨by omega, fun i hi => ?_⟩
    rw [show m + 1 - (j + 1) + i = m - j + i by omega]
    by_cases e : i = j
    · subst e; rw [h3, show m - i + i = m by omega]
    · exact h2 i (by omega)
theorem bo_in {w : List Nat} {m k j : Nat} (hk : Bo w m k) (hj : Bo w k j) : Bo w m j := by
  refine ⟨Nat.lt_trans hj.1 hk.1, fun i hi => ?_⟩
  rw [hj.2 i hi, hk.2 (k - j + i) (by have := hj.1; omega)]
  congr 1
  have := hj.1; have := hk.1; omega
theorem bo_of {w : List Nat} {m k j : Nat} (hk : Bo w m k) (hj : Bo w m j) (l : j < k) : Bo w k j := by
  refine ⟨l, fun i hi => ?_⟩
  rw [hj.2 i hi, hk.2 (k - j + i) (by omega)]
  congr 1
  have := hk.1; omega
theorem set_endG {α : Type} {x y : α} : ∀ {l : List α}, (l ++ [x]).set l.length y = l ++ [y] := by
  intro l; induction l <;> simp_all
@[simp] theorem rdw_c {h : Hd} {ds : List PyData} : rdw (.c h.length) (h ++ [.lst ds]) = some (.ok (.list ds) (h ++ [.lst ds])) := by
  show rd (.c h.length) _ = _
  simp [rd]
/-- what border_lengths gives -/
def BLs (w : List Nat) (m : Nat) (F : List PyData) : Prop := ∀ j, j < m → ∃ k : Nat, F[j]? = some (.int (k : Nat)) ∧ Pi w (j + 1) k
theorem inner (w : List Nat) (m L : Nat) (F : List PyData) (h : Hd) (hw : w.length ≤ 4000) (hm : m < w.length) (hm0 : 0 < m) (hF : F.length = w.length) (hB : BLs w m F) (hL : Pi w m L) :
    ∃ k : Nat, sWhile fu (tAndD (dTest (dBin gtP (eVar 2) (eC (.t (.int 0))))) (dTest (dBin neP (dIx ixP (eVar 0) (eVar 3)) (dIx ixP (eVar 0) (eVar 2))))) (sSet 2 (dIx ixP (eVar 1) (dBin subP (eVar 2) (eC (.t (.int 1)))))) [some (.t (.str (tx w))), some (.c h.length), some (.t (.int (L : Nat))), some (.t (.int (m : Nat)))] (h ++ [.lst F])
      = some (.nx, [some (.t (.str (tx w))), some (.c h.length), some (.t (.int (k : Nat))), some (.t (.int (m : Nat)))], h ++ [.lst F]) ∧ Bo w m k ∧ (∀ j, Bo w m j → k < j → ch w j ≠ ch w m) ∧ (k = 0 ∨ ch w m = ch w k) := by
  have hw' : w.length ≤ 16777216 := by omega
  obtain ⟨k, e1, ⟨i1, i2⟩, e3⟩ := whileN_run (t := tAndD (dTest (dBin gtP (eVar 2) (eC (.t (.int 0))))) (dTest (dBin neP (dIx ixP (eVar 0) (eVar 3)) (dIx ixP (eVar 0) (eVar 2))))) (b := sSet 2 (dIx ixP (eVar 1) (dBin subP (eVar 2) (eC (.t (.int 1))))))
    (fun k : Nat => [some (.t (.str (tx w))), some (.c h.length), some (.t (.int (k : Nat))), some (.t (.int (m : Nat)))]) (fun _ => h ++ [.lst F]) (fun k => Bo w m k ∧ (∀ j, Bo w m j → k < j → ch w j ≠ ch w m)) (fun k => decide (0 < k) && !decide (ch w m = ch w k)) (fun k => k)
    (fun k ⟨hk, _⟩ => by
      have hk' : k < w.length := Nat.lt_trans hk.1 hm
      by_cases h0 : 0 < k
      · simp [tx_len, hw', h0, at_ch hm, at_ch hk', tx_inj]
      · simp [h0])
    (fun k ⟨hk, hk2⟩ hc => by
      simp at hc
      obtain ⟨p, f1, f2⟩ := hB (k - 1) (by have := hk.1; omega)
      rw [show k - 1 + 1 = k by omega] at f2
      have hlt : k - 1 < F.length := by have := hk.1; omega
      have f3 : atI F ((k : Int) - 1) = some (.int (p : Nat)) := by
        rw [atI_int (n := k - 1) (by omega) hlt, ← List.getElem?_eq_getElem hlt, f1]
      refine ⟨p, by simp [f3], ⟨bo_in hk f2.1, fun j bj lj => ?_⟩, f2.1.1⟩
      by_cases hjk : k < j
      · exact hk2 j bj hjk
      · by_cases hje : j = k
        · subst hje; exact fun q => hc.2 q.symm
        · exact absurd (f2.2 j (bo_of hk bj (by omega))) (by omega)) fu L ⟨hL.1, fun j bj lj => absurd (hL.2 j bj) (by omega)⟩ (by rw [fu_eq]; have := hL.1.1; omega)
  refine ⟨k, e1, i1, i2, ?_⟩
  simp at e3
  by_cases h0 : 0 < k
  · exact .inr (e3 h0)
  · exact .inl (by omega)
theorem pi_next {w : List Nat} {m k : Nat} (hm : 0 < m) (hk : Bo w m k) (hn : ∀ j, Bo w m j → k < j → ch w j ≠ ch w m) (hz : k = 0 ∨ ch w m = ch w k) : Pi w (m + 1) (if ch w m = ch w k then k + 1 else 0) := by
  by_cases e : ch w m = ch w k
  · rw [if_pos e]
    refine ⟨bo_suc.mpr ⟨hk, e.symm⟩, fun j hj => ?_⟩
    cases j with
    | zero => omega
    | succ j =>
      obtain ⟨h1, h2⟩ := bo_suc.mp hj
      by_cases q : k < j
      · exact absurd h2 (hn j h1 q)
      · omega
  · rw [if_neg e]
    have k0 : k = 0 := by rcases hz with q | q; exact q; exact absurd q e
    subst k0
    refine ⟨bo0 (by omega), fun j hj => ?_⟩
    cases j with
    | zero => omega
    | succ j =>
      obtain ⟨h1, h2⟩ := bo_suc.mp hj
      by_cases q : 0 < j
      · exact absurd h2 (hn j h1 q)
      · have : j = 0 := by omega
        subst this
        exact absurd h2.symm e
theorem rng_at {lo : Int} {n j : Nat} {x : PyData} (h : (rngD lo n)[j]? = some x) : j < n ∧ .int (lo + (j : Int)) = x := by
  simp only [rngD, List.getElem?_map] at h
  by_cases e : j < n
  · rw [List.getElem?_range e] at h
    exact ⟨e, by simpa using h⟩
  · rw [List.getElem?_eq_none (by simp; omega)] at h
    cases h
theorem pi_one {w : List Nat} : Pi w 1 0 := ⟨bo0 (by omega), fun j hj => by have := hj.1; omega⟩
theorem bls_one {w : List Nat} (h0 : 0 < w.length) : BLs w 1 (List.replicate w.length (.int 0)) := fun j hj => by
  have : j = 0 := by omega
  subst this
  exact ⟨0, by simp [h0], pi_one⟩
theorem turn (w : List Nat) (m L k : Nat) (F : List PyData) (h : Hd) (hw : w.length ≤ 4000) (hm : m < w.length) (hk : k < w.length) (hF : F.length = w.length)
    (e1 : sWhile fu (tAndD (dTest (dBin gtP (eVar 2) (eC (.t (.int 0))))) (dTest (dBin neP (dIx ixP (eVar 0) (eVar 3)) (dIx ixP (eVar 0) (eVar 2))))) (sSet 2 (dIx ixP (eVar 1) (dBin subP (eVar 2) (eC (.t (.int 1)))))) [some (.t (.str (tx w))), some (.c h.length), some (.t (.int (L : Nat))), some (.t (.int (m : Nat)))] (h ++ [.lst F])
      = some (.nx, [some (.t (.str (tx w))), some (.c h.length), some (.t (.int (k : Nat))), some (.t (.int (m : Nat)))], h ++ [.lst F])) :
    sSeq (sWhile fu (tAndD (dTest (dBin gtP (eVar 2) (eC (.t (.int 0))))) (dTest (dBin neP (dIx ixP (eVar 0) (eVar 3)) (dIx ixP (eVar 0) (eVar 2))))) (sSet 2 (dIx ixP (eVar 1) (dBin subP (eVar 2) (eC (.t (.int 1))))))) (sSeq (sSet 2 (dIf (dTest (dBin eqP (dIx ixP (eVar 0) (eVar 3)) (dIx ixP (eVar 0) (eVar 2)))) (dBin addP (eVar 2) (eC (.t (.int 1)))) (eC (.t (.int 0))))) (sSub (eVar 1) (eVar 3) (eVar 2))) [some (.t (.str (tx w))), some (.c h.length), some (.t (.int (L : Nat))), some (.t (.int (m : Nat)))] (h ++ [.lst F])
      = some (.nx, [some (.t (.str (tx w))), some (.c h.length), some (.t (.int ((if ch w m = ch w k then k + 1 else 0 : Nat) : Int))), some (.t (.int (m : Nat)))], h ++ [.lst (F.set m (.int ((if ch w m = ch w k then k + 1 else 0 : Nat) : Int)))]) := by
  have hw' : w.length ≤ 16777216 := by omega
  rw [sSeq_nx e1]
  have st := fun z => stIx_end (z := z) (h := h) (ds := F) (j := m) (by omega)
  by_cases q : ch w m = ch w k
  · simp only [if_pos q]
    simp [tx_len, hw', at_ch hm, at_ch hk, tx_inj, q, st]
  · simp only [if_neg q]
    simp [tx_len, hw', at_ch hm, at_ch hk, tx_inj, q, st]
theorem e_border_lengths (w : List Nat) (h : Hd) (hw : w.length ≤ 4000) (h0 : 0 < w.length) : ∃ F, F_border_lengths [.t (.str (tx w))] h = some (.ok (.t (.list F)) h) ∧ F.length = w.length ∧ BLs w w.length F := by
  have hw' : w.length ≤ 16777216 := by omega
  obtain ⟨S2, h2, e, F, L, o, rfl, rfl, hF, hL, hB⟩ := forL_inv (f := gN 3) (b := sSeq (sWhile fu (tAndD (dTest (dBin gtP (eVar 2) (eC (.t (.int 0))))) (dTest (dBin neP (dIx ixP (eVar 0) (eVar 3)) (dIx ixP (eVar 0) (eVar 2))))) (sSet 2 (dIx ixP (eVar 1) (dBin subP (eVar 2) (eC (.t (.int 1))))))) (sSeq (sSet 2 (dIf (dTest (dBin eqP (dIx ixP (eVar 0) (eVar 3)) (dIx ixP (eVar 0) (eVar 2)))) (dBin addP (eVar 2) (eC (.t (.int 1)))) (eC (.t (.int 0))))) (sSub (eVar 1) (eVar 3) (eVar 2))))
    (fun i S hh => ∃ (F : List PyData) (L : Nat) (o : Option D), S = [some (.t (.str (tx w))), some (.c h.length), some (.t (.int (L : Nat))), o] ∧ hh = h ++ [.lst F] ∧ F.length = w.length ∧ Pi w (1 + i) L ∧ BLs w (1 + i) F)
    (rngD 1 (w.length - 1)) 0 [some (.t (.str (tx w))), some (.c h.length), some (.t (.int (0 : Nat))), none] (h ++ [.lst (List.replicate w.length (.int 0))])
    ⟨List.replicate w.length (.int 0), 0, none, rfl, rfl, by simp, pi_one, bls_one h0⟩
    (fun j x S hh hx ⟨F, L, o, hS, hhh, hF, hL, hB⟩ => by
      subst hS; subst hhh
      obtain ⟨hj, rfl⟩ := rng_at hx
      rw [Nat.zero_add] at hL hB
      have hm : 1 + j < w.length := by omega
      obtain ⟨k, e1, b1, b2, b3⟩ := inner w (1 + j) L F h hw hm (by omega) hF hB hL
      have hk : k < w.length := by have := b1.1; omega
      have pn := pi_next (by omega) b1 b2 b3
      have ej : ((1 : Int) + (j : Int)) = ((1 + j : Nat) : Int) := by omega
      refine ⟨_, [some (.t (.str (tx w))), some (.c h.length), some (.t (.int ((if ch w (1 + j) = ch w k then k + 1 else 0 : Nat) : Int))), some (.t (.int ((1 + j : Nat) : Int)))], h ++ [.lst (F.set (1 + j) (.int ((if ch w (1 + j) = ch w k then k + 1 else 0 : Nat) : Int)))], rfl, ?_, F.set (1 + j) (.int ((if ch w (1 + j) = ch w k then k + 1 else 0 : Nat) : Int)), _, _, rfl, rfl, by simpa using hF, by rw [Nat.zero_add, Nat.add_comm (1 + j) 1, Nat.add_comm 1 (1 + j)] at *; exact pn, ?_⟩
      · rw [ej]
        exact turn w (1 + j) L k F h hw hm hk hF e1
      · intro i hi
        by_cases e : i = 1 + j
        · subst e
          exact ⟨_, by rw [List.getElem?_set_self (by omega)], pn⟩
        · obtain ⟨p, p1, p2⟩ := hB i (by omega)
          exact ⟨p, by rw [List.getElem?_set_ne (by omega), p1], p2⟩)
  refine ⟨F, ?_, hF, ?_⟩
  · have q5 : ((w.length : Int) - 1).toNat = w.length - 1 := by omega
    simp at e
    have q2 : w.length < 4611686018427387904 := by omega
    have q4 : w.length < 9223372036854775808 := by omega
    simp -implicitDefEqProofs [F_border_lengths, g_border_lengths, tx_len, hw', q2, q4, q5, e, show DL.inR 1 = true from rfl]
  · have : 0 + (rngD 1 (w.length - 1)).length = w.length - 1 := by simp [rngD]
    rw [this, show 1 + (w.length - 1) = w.length by omega] at hB
    exact hB
theorem flt_split (p : Nat → Bool) (a b : Nat) (pa : p a = true) (hb : b ≤ a) (hn : ∀ j, b ≤ j → j < a → p j = false) : ∀ n, a < n → (List.range n).filter (fun j => p j && decide (b ≤ j)) = a :: (List.range n).filter (fun j => p j && decide (a < j))
  | 0, h => absurd h (Nat.not_lt_zero _)
  | n + 1, h => by
    rw [List.range_succ, List.filter_append, List.filter_append]
    by_cases e : a = n
    · subst e
      have h1 : (List.range a).filter (fun j => p j && decide (b ≤ j)) = [] := by
        rw [List.filter_eq_nil_iff]
        intro j hj
        rw [List.mem_range] at hj
        by_cases q : b ≤ j
        · simp [hn j q hj]
        · simp [q]
      have h2 : (List.range a).filter (fun j => p j && decide (a < j)) = [] := by
        rw [List.filter_eq_nil_iff]
        intro j hj
        rw [List.mem_range] at hj
        simp [show ¬ a < j by omega]
      rw [h1, h2]
      simp [pa, hb]
    · rw [flt_split p a b pa hb hn n (by omega)]
      have h3 : a < n := by omega
      have h4 : b ≤ n := by omega
      simp [List.filter_cons, h3, h4]
instance (w : List Nat) (m j : Nat) : Decidable (Bo w m j) := by unfold Bo; infer_instance
/-- the borders by their lengths -/
def bord (w : List Nat) : List Nat := (List.range w.length).filter fun j => decide (Bo w w.length j)
theorem e_borders_of (w : List Nat) (h : Hd) (hw : w.length ≤ 4000) (h0 : 0 < w.length) : F_borders_of [.t (.str (tx w))] h = some (.ok (.t (.list ((bord w).map fun k => .int (k : Nat)))) h) := by
  have hw' : w.length ≤ 16777216 := by omega
  obtain ⟨F, eF, hF, hB⟩ := e_border_lengths w h hw h0
  have rd1 : ∀ k : Nat, 0 < k → k ≤ w.length → ∃ p : Nat, atI F ((k : Int) - 1) = some (.int (p : Nat)) ∧ Pi w k p := fun k k0 k1 => by
    obtain ⟨p, f1, f2⟩ := hB (k - 1) (by omega)
    have hlt : k - 1 < F.length := by omega
    exact ⟨p, by rw [atI_int (n := k - 1) (by omega) hlt, ← List.getElem?_eq_getElem hlt, f1], by rwa [show k - 1 + 1 = k by omega] at f2⟩
  obtain ⟨p0, f1, f2⟩ := rd1 w.length h0 (Nat.le_refl _)
  have f3 : atI F (-1) = some (.int (p0 : Nat)) := by
    have e2 : ixN F.length (-1) = some (w.length - 1) := by
      have : ((F.length : Int) - 1).toNat = w.length - 1 := by omega
      have h5 : (-(F.length : Int)) ≤ -1 := by omega
      unfold ixN
      rw [if_neg (by omega), if_pos h5]
      congr 1
    have e3 : ixN F.length ((w.length : Int) - 1) = some (w.length - 1) := by
      unfold ixN
      rw [if_pos (by omega), if_pos (by omega)]
      congr 1
      omega
    unfold atI at f1 ⊢
    rw [e3] at f1
    rw [e2]
    exact f1
  obtain ⟨⟨x, acc⟩, e1, ⟨⟨i1, i2⟩, e3⟩⟩ := whileN_run (t := dTest (dBin gtP (eVar 3) (eC (.t (.int 0))))) (b := sSeq (sDrop (dApp (eVar 2) (eVar 3))) (sSet 3 (dIx ixP (eVar 1) (dBin subP (eVar 3) (eC (.t (.int 1)))))))
    (fun x : Nat × List Nat => [some (.t (.str (tx w))), some (.t (.list F)), some (.c h.length), some (.t (.int (x.1 : Nat)))]) (fun x => h ++ [.lst (x.2.map fun k => .int (k : Nat))])
    (fun x => Bo w w.length x.1 ∧ (x.2.reverse = (List.range w.length).filter (fun j => decide (Bo w w.length j) && decide (x.1 < j)))) (fun x => decide (0 < x.1)) (fun x => x.1)
    (fun x hx => by simp)
    (fun x ⟨hk, hk2⟩ hc => by
      simp at hc
      obtain ⟨p, g1, g2⟩ := rd1 x.1 hc (Nat.le_of_lt hk.1)
      have hl : x.2.length ≤ w.length := by
        have := congrArg List.length hk2
        rw [List.length_reverse] at this
        rw [this]
        exact Nat.le_trans (List.length_filter_le _ _) (by simp)
      have hl' : x.2.length < 16777216 := by omega
      refine ⟨(p, x.2 ++ [x.1]), ?_, ⟨bo_in hk g2.1, ?_⟩, g2.1.1⟩
      · simp [g1, hl']
      · rw [List.reverse_append, hk2]
        have := flt_split (fun j => decide (Bo w w.length j)) x.1 (p + 1) (by simpa using hk) g2.1.1 (fun j h1 h2 => by
          simp only [decide_eq_false_iff_not]
          intro q
          have := g2.2 j (bo_of hk q h2)
          omega) w.length hk.1
        simp only [Nat.succ_le_iff] at this
        rw [this]
        rfl) fu (p0, []) ⟨f2.1, by
      symm
      rw [List.reverse_nil, List.filter_eq_nil_iff]
      intro j hj
      by_cases q : Bo w w.length j
      · have := f2.2 j q
        simp [show ¬ p0 < j by omega]
      · simp [q]⟩ (by have := f2.1.1; rw [fu_eq]; show p0 < _; omega)
  have x0 : x = 0 := by simp at e3; exact e3
  subst x0
  have fin : bord w = 0 :: acc.reverse := by
    rw [i2]
    have := flt_split (fun j => decide (Bo w w.length j)) 0 0 (by simpa using i1) (Nat.le_refl _) (fun j _ h2 => by omega) w.length h0
    simp only [Nat.zero_le, decide_true, Bool.and_true] at this
    exact this
  have hl : acc.length + 1 ≤ 16777216 := by
    have := congrArg List.length fin
    have h6 : (bord w).length ≤ w.length := Nat.le_trans (List.length_filter_le _ _) (by simp)
    simp at this
    omega
  have hne : ¬ tx w = Str.ofString "" := by
    intro q
    have : Str.ofString "" = tx [] := by decide +kernel
    rw [this, tx_inj] at q
    subst q
    simp at h0
  rw [fin]
  simp at e1
  have hl2 : 1 + acc.length ≤ 16777216 := by omega
  simp -implicitDefEqProofs [F_borders_of, g_borders_of, sWhile, eF, f3, e1, hne, hl2]
/-! shown -/
theorem len_app (a b : Str) : (a ++ b).length = a.length + b.length := strLen_append a b
theorem tuple_len (ts : List Str) : (tupleText ts).length ≤ piled ts + 4 := by
  unfold tupleText
  rw [len_app, len_app]
  have e1 : ((("(" : String) : Str)).length = 1 := rfl
  have e3 : (((if ts.length == 1 then ",)" else ")" : String) : Str)).length ≤ 2 := by split <;> decide
  rw [e1]
  by_cases h : ts = []
  · subst h
    have : (Str.join (", " : String) []).length = 0 := rfl
    omega
  · have := join_length_add ts h
    omega
theorem piled_le {B : Nat} : ∀ (xs : List PyData), (∀ x ∈ xs, x.shown.length ≤ B) → piled (PyData.shownAll xs) ≤ xs.length * (B + 2)
  | [], _ => by simp [PyData.shownAll, piled]
  | x :: xs, h => by
    have h1 := h x (by simp)
    have h2 := piled_le xs (fun y hy => h y (by simp [hy]))
    simp only [PyData.shownAll, piled_cons, List.length_cons]
    rw [Nat.add_mul]
    omega
/-- a plain item -/
def okE (B : Nat) (d : PyData) : Prop := d.showable = true ∧ d.canLay0 = true ∧ d.depth = 0 ∧ d.shown.length ≤ B
theorem okE_tup {B : Nat} {xs : List PyData} (h : ∀ x ∈ xs, okE B x) (hl : xs.length * (B + 2) ≤ 1000000) : okR (.tuple xs) = true := by
  have h1 : ∀ ys : List PyData, (∀ x ∈ ys, okE B x) → PyData.showableAll ys = true ∧ PyData.canLayAll0 ys = true ∧ PyData.depthAll ys = 0 := by
    intro ys
    induction ys with
    | nil => intro _; simp [PyData.showableAll, PyData.canLayAll0, PyData.depthAll]
    | cons y ys ih =>
      intro hy
      obtain ⟨a, b, c⟩ := ih (fun z hz => hy z (by simp [hz]))
      obtain ⟨p, q, r, _⟩ := hy y (by simp)
      simp [PyData.showableAll, PyData.canLayAll0, PyData.depthAll, a, b, c, p, q, r]
  obtain ⟨a, b, c⟩ := h1 xs h
  have h2 := tuple_len (PyData.shownAll xs)
  have h3 := piled_le xs (fun x hx => (h x hx).2.2.2)
  have h4 : (tupleText (PyData.shownAll xs)).length ≤ 16777216 := by omega
  simp [okR, SeqAt.shaped, PyData.showable, PyData.canLay0, PyData.depth, PyData.shown, a, b, c, h4]
theorem okR_one {B : Nat} {d : PyData} (h : okE B d) (hB : B ≤ 1000000) : okR d = true := by
  obtain ⟨a, b, c, e⟩ := h
  have : d.shown.length ≤ 16777216 := by omega
  simp [okR, SeqAt.shaped, a, b, c, this]
theorem okE_int (k : Nat) (hk : k < 1000) : okE 3 (.int (k : Nat)) := by
  have h : ∀ k : Fin 1000, (toString ((k.val : Nat) : Int)).length ≤ 3 := by decide +kernel
  have h2 : ∀ k : Fin 1000, ((toString ((k.val : Nat) : Int) : String) : Str).length ≤ 3 := by decide +kernel
  refine ⟨?_, by simp [PyData.canLay0], by simp [PyData.depth], ?_⟩
  · have : k.log2 < 1920 := by
      have := Nat.log2_le_self k
      omega
    simpa [PyData.showable] using this
  · have := h2 ⟨k, hk⟩
    simpa [PyData.shown] using this
/-- codes that a text may hold -/
def Cw (w : List Nat) : Prop := ∀ c ∈ w, c < 1114112
theorem okE_str {w : List Nat} {n : Nat} (hw : Cw w) (hn : w.length ≤ n) : okE (10 * n + 2) (.str (tx w)) := by
  have h1 := StrLaws.reprText_len (tx w) (fun c hc => by have := hw c (by simpa using hc); omega)
  have h2 := tx_len w
  refine ⟨by simp [PyData.showable], ?_, by simp [PyData.depth], ?_⟩
  · simp only [PyData.canLay0, PyData.strOk]
    rw [Array.all_eq_true_iff_forall_mem]
    intro x hx
    have := hw x (by simpa using hx)
    simpa using this
  · have e : (PyData.str (tx w)).shown = reprText (tx w) := by simp [PyData.shown]
    rw [e]
    omega
@[simp] theorem x_repr {d : PyData} : reprP [d] = if okR d then some (.str d.shown) else none := rfl
/-! borders and periods in the law's words -/
theorem ch_get {w : List Nat} {i : Nat} (h : i < w.length) : ch w i = w[i] := by simp [ch, h]
theorem bo_take {w : List Nat} {k : Nat} (hk : k < w.length) : Bo w w.length k ↔ w.take k = w.drop (w.length - k) := by
  constructor
  · rintro ⟨_, h⟩
    apply List.ext_getElem
    · simp; omega
    · intro i h1 h2
      simp at h1
      have := h i (by omega)
      rw [ch_get (by omega), ch_get (by omega)] at this
      simpa using this
  · intro h
    refine ⟨hk, fun i hi => ?_⟩
    rw [ch_get (by omega), ch_get (by omega)]
    have h1 : (w.take k)[i]? = (w.drop (w.length - k))[i]? := by rw [h]
    rw [List.getElem?_take_of_lt hi, List.getElem?_drop, List.getElem?_eq_getElem (by omega), List.getElem?_eq_getElem (by omega)] at h1
    simpa using h1
theorem bo_per {w : List Nat} {p : Nat} (hp : 0 < p) (hk : p ≤ w.length) : Bo w w.length (w.length - p) ↔ ∀ i, i < w.length - p → ch w i = ch w (i + p) := by
  constructor
  · rintro ⟨_, h⟩ i hi
    have := h i hi
    rwa [show w.length - (w.length - p) + i = i + p by omega] at this
  · intro h
    refine ⟨by omega, fun i hi => ?_⟩
    rw [show w.length - (w.length - p) + i = i + p by omega]
    exact h i hi
def perb (w : List Nat) (p : Nat) : Bool := (List.range (w.length - p)).all fun i => decide (ch w i = ch w (i + p))
theorem perb_iff {w : List Nat} {p : Nat} : perb w p = true ↔ ∀ i, i < w.length - p → ch w i = ch w (i + p) := by
  simp [perb]
/-- the periods -/
def pers (w : List Nat) : List Nat := ((List.range w.length).map (1 + ·)).filter (perb w)
theorem rev_range (n : Nat) : (List.range n).reverse = (List.range n).map fun i => n - 1 - i := by
  apply List.ext_getElem
  · simp
  · intro i h1 h2
    simp at h1 h2 ⊢
theorem bord_pers (w : List Nat) : (bord w).reverse.map (fun b => w.length - b) = pers w := by
  unfold bord pers
  rw [← List.filter_reverse, rev_range, List.filter_map, List.map_map, List.filter_map]
  have h1 : (List.range w.length).filter ((fun j => decide (Bo w w.length j)) ∘ fun i => w.length - 1 - i) = (List.range w.length).filter (perb w ∘ fun x => 1 + x) := by
    apply List.filter_congr
    intro i hi
    rw [List.mem_range] at hi
    simp only [Function.comp]
    rw [Bool.eq_iff_iff, decide_eq_true_eq, perb_iff, show w.length - 1 - i = w.length - (1 + i) by omega]
    exact bo_per (by omega) (by omega)
  rw [h1]
  apply List.map_congr_left
  intro i hi
  have := List.mem_range.mp (List.mem_filter.mp hi).1
  simp only [Function.comp]
  omega
/-- a row: letters, at most 400 -/
def Rw (w : List Nat) : Prop := (∀ c ∈ w, c ∈ AZ) ∧ w.length ≤ 400
theorem Rw.is {w : List Nat} (h : Rw w) : isRow (.str (tx w)) = true := by
  simp [isRow, tx_len, h.2, Str.length]
  exact h.1
theorem az_lt : ∀ c ∈ AZ, c < 1114112 := by decide
theorem Rw.cw {w : List Nat} (h : Rw w) : Cw w := fun c hc => az_lt c (h.1 c hc)
theorem e_chk {w : List Nat} (hw : Rw w) (h : Hd) : F_check_row [.t (.str (tx w))] h = some (.ok (.t .none) h) := e_check_row _ h hw.is
def wins (w : List Nat) (k : Nat) : List PyData := (List.range (w.length + 1 - k)).map fun at_ => .str (tx ((w.drop at_).take k))
/-- places -/
def plc (w p : List Nat) : List PyData := (List.range (w.length + 1 - p.length)).filterMap fun at_ => if (w.drop at_).take p.length = p then some (.int (at_ : Nat)) else none
theorem starts_tx (w p : List Nat) (a : Nat) (ha : a + p.length ≤ w.length) : Txt.startswith3 (tx w) (tx p) (a : Int) = decide ((w.drop a).take p.length = p) := by
  unfold Txt.startswith3
  have h1 : fromIndex (tx w).length (a : Int) = a := by
    unfold fromIndex
    rw [if_neg (by omega)]
    omega
  rw [h1, tx_len, tx_len, StrLaws.subAt_eq, tx_len]
  rw [decide_eq_true ha, Bool.true_and]
  simp
  rw [Bool.eq_iff_iff]
  simp
theorem rep_tx (w : List Nat) (k : Nat) : repS (tx w) k = tx (List.replicate k w).flatten := by simp [repS]
theorem rep_s {w : List Nat} (k : Nat) (h2 : k ≤ 400) (h3 : w.length * k ≤ 400) : mulP (.str (tx w)) (.int (k : Nat)) = some (.str (tx (List.replicate k w).flatten)) := by
  have q4 : w.length * k ≤ 16777216 := by omega
  have q6 : k < 9223372036854775808 := by omega
  simp -implicitDefEqProofs [q4, q6, rep_tx, tx_len]
theorem rep_i (n k : Nat) (h1 : n ≤ 400) (h2 : k ≤ 400) : mulP (.int (n : Nat)) (.int (k : Nat)) = some (.int ((n * k : Nat) : Int)) := by
  have q2 : n.log2 + k.log2 < 1000000 := by
    have := Nat.log2_le_self n; have := Nat.log2_le_self k; omega
  simp -implicitDefEqProofs [q2]
theorem e_borders_all (w : List Nat) (h : Hd) (hw : w.length ≤ 4000) : F_borders_of [.t (.str (tx w))] h = some (.ok (.t (.list ((bord w).map fun k => .int (k : Nat)))) h) := by
  by_cases h0 : 0 < w.length
  · exact e_borders_of w h hw h0
  · have : w = [] := List.eq_nil_of_length_eq_zero (by omega)
    subst this
    have e : Str.ofString "" = tx [] := by decide +kernel
    simp -implicitDefEqProofs [F_borders_of, g_borders_of, e, bord]
theorem bord_len (w : List Nat) : (bord w).length ≤ w.length := Nat.le_trans (List.length_filter_le _ _) (by simp)
theorem e_periods_of (w : List Nat) (h : Hd) (hw : w.length ≤ 4000) : F_periods_of [.t (.str (tx w))] h = some (.ok (.t (.list ((pers w).map fun k => .int (k : Nat)))) h) := by
  have hw' : w.length ≤ 16777216 := by omega
  have hb := bord_len w
  have lc := lc_pure (S := [some (.t (.str (tx w))), none]) (h := h) (m := iAny (dRevA false (dCall F_borders_of (aCons (eVar 0) aNil)))) (f := gN 1) (t := tYesD) (e := dBin subP (dCW lenP (aCons (eVar 0) aNil)) (eVar 1)) (own := [1]) (xs := (bord w).reverse) (enc := fun k => .int (k : Nat)) (fun k => some (.int ((w.length - k : Nat) : Int))) (by
    simp -implicitDefEqProofs [iAny, e_borders_all w h hw, List.map_reverse]) (by simp; omega) (by
    intro k hk acc
    have : k < w.length := by
      have := (List.mem_filter.mp (List.mem_reverse.mp hk)).1
      simpa using this
    simp [tx_len, hw']
    omega)
  rw [fm_some] at lc
  have e : List.map (fun k => PyData.int ((w.length - k : Nat) : Int)) (bord w).reverse = (pers w).map fun k => .int (k : Nat) := by
    rw [← bord_pers, List.map_map]; rfl
  rw [e] at lc
  simp -implicitDefEqProofs [F_periods_of, g_periods_of, lc]
/-! the law's own lists -/
section
variable {S : DS} {w p : List Nat} {h : Hd} {a0 a2 a3 a4 a5 a6 a7 a8 a9 a10 a11 a12 a13 a14 a15 : Option D}
theorem l_places (hw : w.length ≤ 400) (hp : p.length ≤ 400) :
    dLc false (iRg1 (aCons (dBin addP (dBin subP (dCW lenP (aCons (eVar 1) aNil)) (dCW lenP (aCons (eVar 2) aNil))) (eC (.t (.int 1)))) aNil)) (gN 10) (dTest (dBin eqP (dSl false (eVar 1) (oSome (eVar 10)) (oSome (dBin addP (eVar 10) (dCW lenP (aCons (eVar 2) aNil))))) (eVar 2))) (dCW intP (aCons (eVar 10) aNil)) [10] [a0, some (.t (.str (tx w))), some (.t (.str (tx p))), a3, a4, a5, a6, a7, a8, a9, a10, a11, a12, a13, a14, a15] h = some (.ok (.t (.list (plc w p))) h) := by
  have hw' : w.length ≤ 16777216 := by omega
  have hp' : p.length ≤ 16777216 := by omega
  refine lc_rng (lo := 0) (n := w.length + 1 - p.length) (fun at_ => if (w.drop at_).take p.length = p then some (.int (at_ : Nat)) else none) ?_ (by simp; omega) ?_
  · simp [x_inR, tx_len, hw', hp']
    exact rg1_h (by omega) (by omega) (by omega)
  · intro i hi acc
    have e : ((i : Int) + (p.length : Int)) = ((i + p.length : Nat) : Int) := by omega
    have e2 : cutP w (some (i : Int)) (some ((i : Int) + (p.length : Int))) = (w.drop i).take p.length := by rw [e, cut_ab, Nat.add_sub_cancel_left]
    by_cases q : (w.drop i).take p.length = p
    · simp [tx_len, hw', hp', cut_tx, e2, q]
    · simp [tx_len, hw', hp', cut_tx, e2, q, tx_inj]
theorem join0 : ∀ l : List (List Nat), Txt.join (tx []) (l.map tx) = tx l.flatten
  | [] => rfl
  | [x] => by rw [TL.join_eq]; simp [Str.join]
  | x :: y :: r => by
    have := join0 (y :: r)
    rw [TL.join_eq] at this ⊢
    show tx x ++ tx [] ++ Str.join (tx []) ((y :: r).map tx) = _
    rw [this, tx_add, tx_add]
    simp
theorem emp : Str.ofString "" = tx [] := by decide +kernel
theorem strs_tx (l : List (List Nat)) : strsP (l.map fun x => .str (tx x)) = some (l.map tx) := by
  induction l with
  | nil => rfl
  | cons x l ih => simp [strsP, ih]
theorem sum_tx (l : List (List Nat)) : ((l.map tx).map (·.length)).sum = l.flatten.length := by
  induction l with
  | nil => rfl
  | cons x l ih => simp only [List.map_cons, List.sum_cons, ih, List.flatten_cons, List.length_append, tx_len]
theorem join_tx (l : List (List Nat)) (hl : l.flatten.length ≤ 16777216) : joinP (.str (tx [])) [.list (l.map fun x => .str (tx x))] = some (.str (tx l.flatten)) := by
  show (strsP (l.map fun x => PyData.str (tx x))).bind _ = _
  rw [strs_tx]
  show (if ((l.map tx).map (·.length)).sum + (l.map tx).length * (tx []).length ≤ 16777216 then _ else _) = _
  rw [sum_tx, show (tx []).length = 0 from rfl, Nat.mul_zero, Nat.add_zero, if_pos hl, join0]
theorem joinM_at {ma : DS → M D} {h' : Hd} {l : List (List Nat)} (ea : ma S h = some (.ok (.t (.list (l.map fun x => .str (tx x)))) h')) (hl : l.flatten.length ≤ 16777216) : dM "str" joinP (eC (.t (.str (Str.ofString "")))) (aCons ma aNil) S h = some (.ok (.t (.str (tx l.flatten))) h') := by
  have := join_tx l hl
  simp [emp, tykP, ea, this]
theorem l_repeat {k : Nat} (hk : k ≤ 400) (hw : (List.replicate k w).flatten.length ≤ 16777216) :
    dM "str" joinP (eC (.t (.str (Str.ofString "")))) (aCons (dLc false (iRg1 (aCons (eVar 4) aNil)) (gN 14) tYesD (eVar 1) [14]) aNil) [a0, some (.t (.str (tx w))), a2, a3, some (.t (.int (k : Nat))), a5, a6, a7, a8, a9, a10, a11, a12, a13, a14, a15] h = some (.ok (.t (.str (tx (List.replicate k w).flatten))) h) := by
  refine joinM_at (h' := h) ?_ hw
  refine (lc_rngM (lo := 0) (n := k) (fun _ => .str (tx w)) ?_ ?_ ?_).trans ?_
  · have q : k < 4611686018427387904 := by omega
    simp -implicitDefEqProofs [q]
  · simp; omega
  · intro i hi acc
    simp
  · simp [List.map_const']
theorem take_com : ∀ (v w : List Nat) (k : Nat), k ≤ v.length → k ≤ w.length → (v.take k = w.take k ↔ k ≤ comN v w)
  | _, _, 0, _, _ => by simp
  | [], _, k + 1, h, _ => by simp at h
  | _ :: _, [], k + 1, _, h => by simp at h
  | a :: as, b :: bs, k + 1, h1, h2 => by
    have := take_com as bs k (by simpa using h1) (by simpa using h2)
    simp only [List.take_succ_cons, List.cons.injEq, comN]
    rw [this]
    split <;> simp_all
theorem maxI_is : ∀ (l : List Int) (m : Int), m ∈ l → (∀ x ∈ l, x ≤ m) → maxI l = m
  | [], _, h, _ => by simp at h
  | [n], m, h, _ => by simp at h; simp [maxI, h]
  | n :: k :: ns, m, h, hm => by
    show max n (maxI (k :: ns)) = m
    by_cases q : m ∈ k :: ns
    · rw [maxI_is (k :: ns) m q fun x hx => hm x (List.mem_cons_of_mem _ hx)]
      have := hm n (by simp)
      omega
    · have e : m = n := by
        rcases List.mem_cons.mp h with r | r
        · exact r
        · exact absurd r q
      have h3 : ∀ (l : List Int), l ≠ [] → (∀ x ∈ l, x ≤ m) → maxI l ≤ m := by
        intro l
        induction l with
        | nil => intro h; exact absurd rfl h
        | cons a l ih =>
          intro _ ha
          cases l with
          | nil => exact ha a (by simp)
          | cons b l =>
            show max a (maxI (b :: l)) ≤ m
            have h4 := ih (by simp) (fun x hx => ha x (List.mem_cons_of_mem _ hx))
            have h5 := ha a (by simp)
            omega
      have := h3 (k :: ns) (by simp) fun x hx => hm x (List.mem_cons_of_mem _ hx)
      omega
theorem l_common (hw : w.length ≤ 400) (hp : p.length ≤ 400) :
    dCW maxP (aCons (dBin addP (dLst false (aCons (eC (.t (.int 0))) aNil)) (dLc false (iRg2 (aCons (eC (.t (.int 1))) (aCons (dBin addP (dCW minP (aCons (dCW lenP (aCons (eVar 1) aNil)) (aCons (dCW lenP (aCons (eVar 2) aNil)) aNil))) (eC (.t (.int 1)))) aNil))) (gN 10) (dTest (dBin eqP (dSl false (eVar 1) oNone (oSome (eVar 10))) (dSl false (eVar 2) oNone (oSome (eVar 10))))) (eVar 10) [10])) aNil) [a0, some (.t (.str (tx w))), some (.t (.str (tx p))), a3, a4, a5, a6, a7, a8, a9, a10, a11, a12, a13, a14, a15] h = some (.ok (.t (.int (comN w p : Nat))) h) := by
  have hw' : w.length ≤ 16777216 := by omega
  have hp' : p.length ≤ 16777216 := by omega
  have hc := com_le w p
  obtain ⟨m, hm0⟩ : ∃ m, m = min w.length p.length := ⟨_, rfl⟩
  have e0 : (if p.length < w.length then (p.length : Int) else (w.length : Int)) = (m : Nat) := by split <;> omega
  have lc : dLc false (iRg2 (aCons (eC (.t (.int 1))) (aCons (dBin addP (dCW minP (aCons (dCW lenP (aCons (eVar 1) aNil)) (aCons (dCW lenP (aCons (eVar 2) aNil)) aNil))) (eC (.t (.int 1)))) aNil))) (gN 10) (dTest (dBin eqP (dSl false (eVar 1) oNone (oSome (eVar 10))) (dSl false (eVar 2) oNone (oSome (eVar 10))))) (eVar 10) [10] [a0, some (.t (.str (tx w))), some (.t (.str (tx p))), a3, a4, a5, a6, a7, a8, a9, a10, a11, a12, a13, a14, a15] h = some (.ok (.t (.list (((List.range (m)).filter fun i => decide (1 + i ≤ comN w p)).map fun i => .int ((1 + i : Nat) : Int)))) h) := by
    rw [lc_rng (lo := 1) (n := m) (fun i => if 1 + i ≤ comN w p then some (.int ((1 + i : Nat) : Int)) else none)]
    · congr 4
      rw [← List.filterMap_eq_map, List.filterMap_filter]
      congr 1
      funext i
      by_cases q : 1 + i ≤ comN w p <;> simp [q]
    · have q : m < 4611686018427387903 := by omega
      simp -implicitDefEqProofs [tx_len, hw', hp', e0, q, show DL.inR 1 = true from rfl]
    · simp; omega
    · intro i hi acc
      have e : ((1 : Int) + (i : Int)) = ((1 + i : Nat) : Int) := by omega
      have t := take_com w p (1 + i) (by omega) (by omega)
      rw [e]
      by_cases q : 1 + i ≤ comN w p
      · simp only [q, iff_true] at t
        simp [tx_len, hw', hp', cut_tx, cut_to, t, q, -Int.natCast_add]
      · simp only [q, iff_false] at t
        simp [tx_len, hw', hp', cut_tx, cut_to, t, q, tx_inj, -Int.natCast_add]
  have hlen : ((List.range (m)).filter fun i => decide (1 + i ≤ comN w p)).length ≤ 400 := Nat.le_trans (List.length_filter_le _ _) (by simp; omega)
  have hlen' : 1 + ((List.range (m)).filter fun i => decide (1 + i ≤ comN w p)).length ≤ 16777216 := by omega
  have hm : maxP [.list (.int 0 :: ((List.range (m)).filter fun i => decide (1 + i ≤ comN w p)).map fun i => .int ((1 + i : Nat) : Int))] = some (.int (comN w p : Nat)) := by
    have e1 : intsP (.int 0 :: ((List.range (m)).filter fun i => decide (1 + i ≤ comN w p)).map fun i => .int ((1 + i : Nat) : Int)) = some (0 :: ((List.range (m)).filter fun i => decide (1 + i ≤ comN w p)).map fun i => ((1 + i : Nat) : Int)) := by
      have := intsP_map (0 :: ((List.range (m)).filter fun i => decide (1 + i ≤ comN w p)).map fun i => ((1 + i : Nat) : Int))
      rw [List.map_cons, List.map_map] at this
      exact this
    show (intsP _).bind _ = _
    rw [e1]
    simp only [Option.bind_some]
    rw [if_neg (by simp), maxI_is _ (comN w p : Nat)]
    · by_cases q : comN w p = 0
      · simp [q]
      · refine List.mem_cons_of_mem _ (List.mem_map.mpr ⟨comN w p - 1, ?_, by omega⟩)
        rw [List.mem_filter, List.mem_range]
        exact ⟨by omega, by simp; omega⟩
    · intro x hx
      rcases List.mem_cons.mp hx with r | r
      · omega
      · obtain ⟨i, hi, rfl⟩ := List.mem_map.mp r
        have := (List.mem_filter.mp hi).2
        simp at this
        omega
  simp -implicitDefEqProofs [lc, hlen', hm, -Int.natCast_add]
end
def cel (a b c : Int) : Cell := .lst [.int a, .int b, .int c]
def Gp (k : Nat) (x : Cell) : Prop := ∃ a b c : Int, x = cel a b c ∧ 0 ≤ a ∧ a < 10 ^ 300 ∧ 0 ≤ b ∧ b < 2 ^ 61 ∧ 0 ≤ c ∧ c ≤ k
theorem lg {n k : Nat} (h : n < 2 ^ k) : n.log2 ≤ k := by
  by_cases h0 : n = 0
  · subst h0; simp
  · exact Nat.le_of_lt ((Nat.log2_lt h0).mpr h)
theorem mul_ok {i j : Int} (hi : i.natAbs < 2 ^ 200) (hj : j.natAbs < 2 ^ 200) : ∃ m, m = i * j ∧ mulP (.int i) (.int j) = some (.int m) := by
  have := lg hi; have := lg hj
  exact ⟨_, rfl, by show (if _ then _ else _) = _; rw [if_pos (by omega)]⟩
@[simp] theorem x_rdc {n : Nat} {h : Hd} : rdw (.c n) h = match h[n]? with
  | some (.lst ds) => some (.ok (.list ds) h)
  | some (.gone d) => some (.ok d h)
  | none => none := rfl
@[simp] theorem rdws_s {ns : List Int} {ds : List D} : rdws (.s ns :: ds) = bd (rdws ds) fun xs => ret (.list (ns.map .int) :: xs) := rfl
theorem tk_set {h : Hd} {n : Nat} {y : Cell} : (h.set n y).take h.length = h.set n y := List.take_of_length_le (by simp)
theorem prime_at (c : Int) : ∃ p : Int, atI [PyData.int 2147483647, .int 2147483629, .int 2147483587, .int 2147483579] (c % 4) = some (.int p) ∧ 0 < p ∧ p ≤ 2147483647 := by
  have h : c % 4 = 0 ∨ c % 4 = 1 ∨ c % 4 = 2 ∨ c % 4 = 3 := by omega
  rcases h with e | e | e | e <;> rw [e]
  · exact ⟨_, rfl, by decide⟩
  · exact ⟨_, rfl, by decide⟩
  · exact ⟨_, rfl, by decide⟩
  · exact ⟨_, rfl, by decide⟩
theorem pow3_ok {i : Int} (h0 : 0 ≤ i) (h : i.natAbs < 2 ^ 63) : ∃ m, m = i ^ 3 ∧ powP (.int i) (.int 3) = some (.int m) := by
  refine ⟨_, rfl, ?_⟩
  have h1 : Builtin.Int.intBits i ≤ 64 := by
    unfold Builtin.Int.intBits
    have := lg h
    split <;> omega
  show (if _ then _ else _) = _
  rw [if_pos (by constructor <;> omega)]
  rfl
theorem take_ok {n k u : Nat} {h : Hd} {x : Cell} (hx : h[n]? = some x) (g : Gp k x) (hk : k ≤ 10000) (hu : 0 < u) (hu2 : u ≤ 10000) :
    ∃ (r : Nat) (y : Cell), F__law_take [.c n, .t (.int (u : Nat))] h = some (.ok (.t (.int (r : Nat))) (h.set n y)) ∧ r < u ∧ Gp (k + 1) y := by
  obtain ⟨a, b, c, rfl, a0, a1, b0, b1, c0, c1⟩ := g
  have hl : n < h.length := (List.getElem?_eq_some_iff.mp hx).1
  have u0 : (0 : Int) < u := by omega
  have ul : (u : Int).natAbs.log2 < 9000 := by
    have := @lg u 20 (by omega)
    simp
    omega
  have fin : ∀ z : Int, 0 ≤ z % (u : Int) ∧ (z % (u : Int)).toNat < u := fun z => by
    have h1 := Int.emod_nonneg z (by omega : (u : Int) ≠ 0)
    have h2 := Int.emod_lt_of_pos z u0
    omega
  by_cases ha : 0 < a
  · obtain ⟨f1, f2⟩ := fin a
    refine ⟨(a % u).toNat, cel (a / u) b c, ?_, f2, a / u, b, c, rfl, Int.ediv_nonneg a0 (by omega), ?_, b0, b1, c0, by omega⟩
    · rw [Int.toNat_of_nonneg f1]
      have st : ∀ z, stIx (.c n) (.t (.int 0)) z h = some (.ok () (h.set n (.lst [z, .int b, .int c]))) := fun z => stIx_at (j := 0) hx (by simp)
      have fd : fdivP (.int a) (.int (u : Nat)) = some (.int (a / u)) := by
        show (if _ then _ else _) = _
        rw [if_pos ⟨u0, ul⟩]
      simp -implicitDefEqProofs [F__law_take, g__law_take, hx, cel, atI, ixN, ha, hu, fd, st, tk_set, -x_fdiv_i]
    · exact Int.lt_of_le_of_lt (Int.ediv_le_self u a0) a1
  · obtain ⟨d, hd⟩ : ∃ d, d = c + 1 := ⟨_, rfl⟩
    have st : stIx (.c n) (.t (.int 2)) (.int d) h = some (.ok () (h.set n (cel a b d))) := stIx_at (j := 2) hx (by simp)
    have hx1 : (h.set n (cel a b d))[n]? = some (.lst [.int a, .int b, .int d]) := by simp [List.getElem?_set, hl, cel]
    obtain ⟨q, pa, p0, p1⟩ := prime_at d
    obtain ⟨m1, hm1, e1⟩ := mul_ok (i := 163069) (j := d) (by decide) (by omega)
    have q1 : 0 ≤ m1 ∧ m1 < 10 ^ 10 := by omega
    obtain ⟨m2, hm2, e2⟩ := mul_ok (i := m1) (j := d) (by omega) (by omega)
    have q2 : 0 ≤ m2 ∧ m2 < 10 ^ 15 := by
      rw [hm2]
      refine ⟨Int.mul_nonneg q1.1 (by omega), ?_⟩
      have := Int.mul_le_mul (show m1 ≤ 10 ^ 10 by omega) (show d ≤ 10001 by omega) (by omega) (by omega)
      omega
    obtain ⟨m3, hm3, e3⟩ := pow3_ok (i := b + m2 + 5004) (by omega) (by omega)
    have r0 := Int.emod_nonneg m3 (show q ≠ 0 by omega)
    have r1 := Int.emod_lt_of_pos m3 p0
    obtain ⟨bl, hbl⟩ : ∃ bl, bl = m3 % q := ⟨_, rfl⟩
    obtain ⟨m4, hm4, e4⟩ := mul_ok (i := 4206) (j := d) (by decide) (by omega)
    have s0 : 0 ≤ bl % 10007 ∧ bl % 10007 < 10007 := by omega
    obtain ⟨m5, hm5, e5⟩ := mul_ok (i := bl) (j := bl % 10007 + m4) (by omega) (by omega)
    have e6 : fdivP (.int m5) (.int 307) = some (.int (m5 / 307)) := rfl
    obtain ⟨f1, f2⟩ := fin (m5 / 307)
    refine ⟨(m5 / 307 % u).toNat, cel a b d, ?_, f2, a, b, d, rfl, a0, a1, b0, b1, by omega, by omega⟩
    rw [Int.toNat_of_nonneg f1]
    rw [← hbl] at r0 r1
    have b4 : atI [PyData.int a, .int b, .int c] 0 = some (.int a) := rfl
    have b5 : atI [PyData.int a, .int b, .int c] 2 = some (.int c) := rfl
    have b6 : atI [PyData.int a, .int b, .int d] 1 = some (.int b) := rfl
    have b7 : atI [PyData.int a, .int b, .int d] 2 = some (.int d) := rfl
    have hx' : h[n]? = some (.lst [.int a, .int b, .int c]) := hx
    have z1 : (4 : Int) > 0 := by decide
    simp -implicitDefEqProofs [F__law_take, g__law_take, hx', hx1, b4, b5, b6, b7, ha, hu, ← hd, st, pa, e1, e2, e3, p0, ← hbl, e4, e5, e6, tk_set, -x_fdiv_i, -x_mul_i, -x_pow_i]
/-! pot -/
theorem sum_cut (ns : List Int) : ∃ s, sumP [.list (cutP (ns.map .int) none (some (1 : Int)))] = some (.int s) := by
  unfold cutP
  rw [← List.map_drop, ← List.map_take]
  exact ⟨_, by show (intsP _).map _ = _; rw [intsP_map]; rfl⟩
theorem pow_ok {i : Int} (j : Nat) (h : (Builtin.Int.intBits i : Int) * (j : Int) ≤ 2 ^ 27) : powP (.int i) (.int (j : Nat)) = some (.int (i ^ j)) := by
  show (if _ then _ else _) = _
  rw [if_pos ⟨by omega, h⟩]
  rfl
theorem tens : ∃ K1 K K2 : Int, powP (.int 10) (.int 60) = some (.int K1) ∧ powP (.int K1) (.int 5) = some (.int K) ∧ powP (.int 10) (.int 18) = some (.int K2) ∧ K = 10 ^ 300 :=
  ⟨10 ^ 60, 10 ^ 300, 10 ^ 18, pow_ok 60 (by decide +kernel), (pow_ok 5 (by decide +kernel)).trans (congrArg (fun i => some (PyData.int i)) (show ((10 ^ 60) ^ 5 : Int) = 10 ^ 300 by decide +kernel)), pow_ok 18 (by decide +kernel), rfl⟩
theorem mul_b {m : Int} (h0 : 0 ≤ m) (h : m < 10 ^ 300) (b : Prop) [Decidable b] : mulP (.int m) (.int (if b then 1 else 0)) = some (.int (if b then m else 0)) := by
  have h1 : m.natAbs < 2 ^ 1000 := by
    have e : (m.natAbs : Int) = m := Int.natAbs_of_nonneg h0
    have h2 : ((m.natAbs : Nat) : Int) < ((2 ^ 1000 : Nat) : Int) := by
      rw [e]
      exact Int.lt_trans h (by decide +kernel)
    exact Int.ofNat_lt.mp h2
  have h3 := lg h1
  show (if _ then _ else _) = _
  have h4 : (if b then (1 : Int) else 0).natAbs.log2 = 0 := by split <;> rfl
  rw [h4, if_pos (by omega)]
  split <;> simp
theorem sSet_at {i : Nat} {m : DS → M D} {S : DS} {h h' : Hd} {d : D} (e : m S h = some (.ok d h')) : sSet i m S h = some (.nx, S.set i (some d), h') := by
  simp [e]
theorem pot_ok (ns : List Int) (place : Nat) (hp : place ≤ 10) (h : Hd) : ∃ x, F__law_pot [.s ns, .t (.int (place : Nat))] h = some (.ok (.c h.length) (h ++ [x])) ∧ Gp 0 x := by
  obtain ⟨v, hv⟩ : ∃ v : Int, (dIf (dTest (dBin ltP (eVar 1) (dCW lenP (aCons (eVar 0) aNil)))) (dIx ixP (eVar 0) (eVar 1)) (dBin addP (dBin addP (dBin modP (dCW intP (aCons (dCW sumP (aCons (dSl false (eVar 0) oNone (oSome (eC (.t (.int 1))))) aNil)) aNil)) (eC (.t (.int 1000003)))) (dBin mulP (eC (.t (.int 4904))) (eVar 1))) (eC (.t (.int 12518))))) [some (.s ns), some (.t (.int (place : Nat))), none, none, none] h = some (.ok (.t (.int v)) h) := by
    by_cases q : place < ns.length
    · have e : atI (ns.map PyData.int) (place : Int) = some (.int ns[place]) := by
        rw [atI_nat (by simpa using q)]; simp
      exact ⟨ns[place], by simp -implicitDefEqProofs [q, e, -x_mul_i]⟩
    · obtain ⟨s, hs⟩ := sum_cut ns
      obtain ⟨m, _, hm⟩ := mul_ok (i := 4904) (j := (place : Nat)) (by decide) (by omega)
      exact ⟨s % 1000003 + m + 12518, by simp -implicitDefEqProofs [q, hs, hm, slM, -x_mul_i]⟩
  obtain ⟨K1, K, K2, e7, e8, e9, hK⟩ := tens
  obtain ⟨u, hu⟩ : ∃ u, u = (if v < 0 then -v else v) := ⟨_, rfl⟩
  obtain ⟨g1, g2⟩ : 0 ≤ u % K ∧ u % K < 10 ^ 300 := by
    have k0 : 0 < K := by rw [hK]; decide +kernel
    refine ⟨Int.emod_nonneg _ (Int.ne_of_gt k0), ?_⟩
    rw [← hK]
    exact Int.emod_lt_of_pos _ k0
  have k0 : 0 < K := by rw [hK]; decide +kernel
  obtain ⟨w, hw⟩ : ∃ w, w = u % K := ⟨_, rfl⟩
  rw [← hw] at g1 g2
  obtain ⟨t, ht⟩ : ∃ t, t = v % 2305843009213693951 := ⟨_, rfl⟩
  have t0 : 0 ≤ t ∧ t < 2305843009213693951 := by omega
  obtain ⟨m1, hm1, e1⟩ := mul_ok (i := t) (j := 107319) (by omega) (by decide)
  obtain ⟨m2, hm2, e2⟩ := mul_ok (i := 16417) (j := (place : Nat)) (by decide) (by omega)
  obtain ⟨m3, hm3, e3⟩ := mul_ok (i := m2) (j := (place : Nat)) (by omega) (by omega)
  have mb := mul_b g1 g2 (K2 ≤ u)
  obtain ⟨ow, ho⟩ : ∃ ow, ow = (if K2 ≤ u then w else 0) := ⟨_, rfl⟩
  rw [← ho] at mb
  have ho2 : 0 ≤ ow ∧ ow < 10 ^ 300 := by
    rw [ho]
    split
    · exact ⟨g1, g2⟩
    · exact ⟨Int.le_refl _, by decide +kernel⟩
  have b0 := Int.emod_nonneg (m1 + m3 + 4304) (show (2305843009213693921 : Int) ≠ 0 by decide)
  have b1 := Int.emod_lt_of_pos (m1 + m3 + 4304) (show (0 : Int) < 2305843009213693921 by decide)
  refine ⟨cel ow ((m1 + m3 + 4304) % 2305843009213693921) 0, ?_, ow, _, 0, rfl, ho2.1, ho2.2, b0, by omega, by decide, by decide⟩
  have s1 := sSet_at (i := 2) hv
  simp only [List.set_cons_succ, List.set_cons_zero] at s1
  have s2 : ∀ a2 a3 a4 : Option D, sSet 3 (dBin mulP (dBin modP (dCW intP (aCons (dCW absP (aCons (eVar 2) aNil)) aNil)) (dBin powP (dBin powP (eC (.t (.int 10))) (eC (.t (.int 60)))) (eC (.t (.int 5))))) (dCW intP (aCons (dBin geP (dCW absP (aCons (eVar 2) aNil)) (dBin powP (eC (.t (.int 10))) (eC (.t (.int 18))))) aNil))) [some (.s ns), some (.t (.int (place : Nat))), some (.t (.int v)), a3, a4] h = some (.nx, [some (.s ns), some (.t (.int (place : Nat))), some (.t (.int v)), some (.t (.int ow)), a4], h) := by
    intro a2 a3 a4
    simp -implicitDefEqProofs [e7, e8, e9, k0, ← hu, ← hw, mb, -x_mul_i, -x_pow_i]
  have s3 : ∀ a3 a4 : Option D, sSet 4 (dBin modP (dCW intP (aCons (eVar 2) aNil)) (eC (.t (.int 2305843009213693951)))) [some (.s ns), some (.t (.int (place : Nat))), some (.t (.int v)), a3, a4] h = some (.nx, [some (.s ns), some (.t (.int (place : Nat))), some (.t (.int v)), a3, some (.t (.int t))], h) := by
    intro a3 a4
    simp -implicitDefEqProofs [← ht]
  have s4 : sRet (dLst true (aCons (eVar 3) (aCons (dBin modP (dCW intP (aCons (dBin addP (dBin addP (dBin mulP (eVar 4) (eC (.t (.int 107319)))) (dBin mulP (dBin mulP (eC (.t (.int 16417))) (eVar 1)) (eVar 1))) (eC (.t (.int 4304)))) aNil)) (eC (.t (.int 2305843009213693921)))) (aCons (eC (.t (.int 0))) aNil)))) [some (.s ns), some (.t (.int (place : Nat))), some (.t (.int v)), some (.t (.int ow)), some (.t (.int t))] h = some (.rt (.c h.length), [some (.s ns), some (.t (.int (place : Nat))), some (.t (.int v)), some (.t (.int ow)), some (.t (.int t))], h ++ [cel ow ((m1 + m3 + 4304) % 2305843009213693921) 0]) := by
    simp -implicitDefEqProofs [e1, e2, e3, cel, -x_mul_i]
  have e : g__law_pot [some (.s ns), some (.t (.int (place : Nat))), none, none, none] h = some (.rt (.c h.length), [some (.s ns), some (.t (.int (place : Nat))), some (.t (.int v)), some (.t (.int ow)), some (.t (.int t))], h ++ [cel ow ((m1 + m3 + 4304) % 2305843009213693921) 0]) := by
    unfold g__law_pot
    rw [sSeq_nx s1, sSeq_nx (s2 none none none), sSeq_nx (s3 _ none), s4]
  simp -implicitDefEqProofs [F__law_pot, e, cel, x_out_cc]
theorem Gp.mono {k l : Nat} {x : Cell} (g : Gp k x) (h : k ≤ l) : Gp l x := by
  obtain ⟨a, b, c, e, a0, a1, b0, b1, c0, c1⟩ := g
  exact ⟨a, b, c, e, a0, a1, b0, b1, c0, by omega⟩
theorem take_at {n k : Nat} {u : Int} {h : Hd} {x : Cell} (un : Nat) (e : u = (un : Int)) (hx : h[n]? = some x) (g : Gp k x) (hk : k ≤ 10000) (hu : 0 < un) (hu2 : un ≤ 10000) :
    ∃ (r : Nat) (y : Cell), F__law_take [.c n, .t (.int u)] h = some (.ok (.t (.int (r : Nat))) (h.set n y)) ∧ r < un ∧ Gp (k + 1) y := by
  subst e
  exact take_ok hx g hk hu hu2
theorem set_at' {h : Hd} {n : Nat} {x y : Cell} (hx : h[n]? = some x) : (h.set n y)[n]? = some y := by
  have hl : n < h.length := (List.getElem?_eq_some_iff.mp hx).1
  simp [List.getElem?_set, hl]
theorem law_of_ok {n k : Nat} {h : Hd} {x : Cell} {xs : List PyData} (hx : h[n]? = some x) (g : Gp k x) (hk : k ≤ 10000) (hu : 0 < xs.length) (hu2 : xs.length ≤ 10000) :
    ∃ (r : Nat) (z : PyData) (y : Cell), F__law_of [.c n, .t (.list xs)] h = some (.ok (.t z) (h.set n y)) ∧ xs[r]? = some z ∧ Gp (k + 1) y := by
  obtain ⟨r, y, e, hr, gy⟩ := take_ok hx g hk hu hu2
  refine ⟨r, xs[r], y, ?_, List.getElem?_eq_getElem hr, gy⟩
  simp -implicitDefEqProofs [F__law_of, g__law_of, e, atI_nat hr, tk_set]
theorem lot_tx : Str.ofString "abcdef" = tx [97, 98, 99, 100, 101, 102] := by decide +kernel
theorem cs_of {ys : List PyData} (h : ∀ y ∈ ys, ∃ c, y = .str (tx [c]) ∧ c ∈ AZ) : ∃ cs : List Nat, ys = (cs.map fun c => [c]).map (fun x => .str (tx x)) ∧ ∀ c ∈ cs, c ∈ AZ := by
  induction ys with
  | nil => exact ⟨[], rfl, by simp⟩
  | cons y ys ih =>
    obtain ⟨c, e, hc⟩ := h y (by simp)
    obtain ⟨cs, e2, hcs⟩ := ih fun z hz => h z (by simp [hz])
    refine ⟨c :: cs, by simp [e, e2], ?_⟩
    intro d hd
    rcases List.mem_cons.mp hd with q | q
    · exact q ▸ hc
    · exact hcs d q
theorem flat_one (cs : List Nat) : (cs.map fun c => [c]).flatten = cs := by
  induction cs <;> simp_all
theorem row_ok {n k : Nat} {s lo hi : Int} {h : Hd} {x : Cell} (sn ln hn : Nat) (es : s = (sn : Nat)) (el : lo = (ln : Nat)) (eh : hi = (hn : Nat)) (h1 : 1 ≤ sn) (h2 : ln ≤ hn) (h3 : hn ≤ 12) (hx : h[n]? = some x) (g : Gp k x) (hk : k ≤ 9000) :
    ∃ (w : List Nat) (y : Cell), F__law_row [.c n, .t (.int s), .t (.int lo), .t (.int hi)] h = some (.ok (.t (.str (tx w))) (h.set n y)) ∧ (∀ c ∈ w, c ∈ AZ) ∧ ln ≤ w.length ∧ w.length ≤ hn ∧ Gp (k + 13) y := by
  subst es; subst el; subst eh
  have hl : n < h.length := (List.getElem?_eq_some_iff.mp hx).1
  obtain ⟨r, y, e, hr, gy⟩ := take_at (u := (hn : Int) - (ln : Int) + 1) (hn - ln + 1) (by omega) hx g (by omega) (by omega) (by omega)
  obtain ⟨lot, hlot⟩ : ∃ lot, lot = ([97, 98, 99, 100, 101, 102] : List Nat).take sn := ⟨_, rfl⟩
  have lot1 : 0 < lot.length ∧ lot.length ≤ 6 := by rw [hlot]; simp; omega
  have lot2 : ∀ c ∈ lot, c ∈ AZ := by
    intro c hc
    rw [hlot] at hc
    have := List.mem_of_mem_take hc
    revert this
    have : ∀ c ∈ ([97, 98, 99, 100, 101, 102] : List Nat), c ∈ AZ := by decide
    exact this c
  obtain ⟨ys, h', e2, l2, g2, ⟨y2, i2, i3⟩, k2⟩ := lc_inv (S := [some (.c n), some (.t (.int (sn : Nat))), some (.t (.int (ln : Nat))), some (.t (.int (hn : Nat))), some (.t (.str (tx lot))), none]) (h := h) (h' := h.set n y) (m := iRg1 (aCons (dBin addP (eVar 2) (dCall F__law_take (aCons (eVar 0) (aCons (dBin addP (dBin subP (eVar 3) (eVar 2)) (eC (.t (.int 1)))) aNil)))) aNil)) (f := gN 5) (t := tYesD) (e := dCall F__law_of (aCons (eVar 0) (aCons (dCN false listP (aCons (eVar 4) aNil)) aNil))) (own := [5]) (xs := rngD 0 (ln + r))
    (fun i h1 => ∃ z, h1 = h.set n z ∧ Gp (k + 1 + i) z) (fun d => ∃ c, d = .str (tx [c]) ∧ c ∈ AZ)
    (by
      have q : ln + r < 4611686018427387904 := by omega
      have e3 : ((ln : Int) + (r : Int)) = ((ln + r : Nat) : Int) := by omega
      simp -implicitDefEqProofs [e, e3, q, -Int.natCast_add])
    (by simp [rngD]; omega) ⟨y, rfl, gy⟩ (by
      intro d hd i h1 acc hi0 hl1 ⟨z, ez, gz⟩
      have hi : i ≤ 12 := by simp [rngD] at hi0; omega
      have hz : (h1 ++ [Cell.lst acc])[n]? = some z := by
        rw [List.getElem?_append_left (by rw [ez]; simpa using hl), ez]
        exact set_at' hx
      obtain ⟨q, v, y', e4, hq, gy'⟩ := law_of_ok (xs := signsP (tx lot)) hz gz (by omega) (by simp [signsP]; omega) (by simp [signsP]; omega)
      have hs : (h1 ++ [Cell.lst acc]).set n y' = h.set n y' ++ [Cell.lst acc] := by
        rw [List.set_append_left _ _ (by rw [ez]; simpa using hl), ez, List.set_set]
      rw [hs] at e4
      have tl : lot.length ≤ 16777216 := by omega
      refine ⟨v, h.set n y', ?_, ?_, ⟨y', rfl, gy'⟩, by simp⟩
      · simp -implicitDefEqProofs [listP, tx_len, tl, e4]
      · have := List.mem_of_getElem? hq
        simp only [signsP, List.mem_map] at this
        obtain ⟨c, hc, rfl⟩ := this
        exact ⟨c, rfl, lot2 c (by simpa using hc)⟩)
  obtain ⟨cs, rfl, hcs⟩ := cs_of g2
  have hlen : cs.length = ln + r := by simpa [rngD] using l2
  subst i2
  refine ⟨cs, y2, ?_, hcs, by omega, by omega, i3.mono (by simp [rngD]; omega)⟩
  have jn := joinM_at (S := [some (.c n), some (.t (.int (sn : Nat))), some (.t (.int (ln : Nat))), some (.t (.int (hn : Nat))), some (.t (.str (tx lot))), none]) (h := h) e2 (by rw [flat_one]; omega)
  rw [flat_one] at jn
  have s1 : sSet 4 (dSl false (eC (.t (.str (Str.ofString "abcdef")))) oNone (oSome (eVar 1))) [some (.c n), some (.t (.int (sn : Nat))), some (.t (.int (ln : Nat))), some (.t (.int (hn : Nat))), none, none] h = some (.nx, [some (.c n), some (.t (.int (sn : Nat))), some (.t (.int (ln : Nat))), some (.t (.int (hn : Nat))), some (.t (.str (tx lot))), none], h) := by
    simp -implicitDefEqProofs [lot_tx, tx_len, cut_tx, cut_to, hlot]
  have e5 : g__law_row [some (.c n), some (.t (.int (sn : Nat))), some (.t (.int (ln : Nat))), some (.t (.int (hn : Nat))), none, none] h = some (.rt (.t (.str (tx cs))), [some (.c n), some (.t (.int (sn : Nat))), some (.t (.int (ln : Nat))), some (.t (.int (hn : Nat))), some (.t (.str (tx lot))), none], h.set n y2) := by
    unfold g__law_row
    rw [sSeq_nx s1, x_sRet, sB_ok jn]
  simp -implicitDefEqProofs [F__law_row, e5, tk_set]
theorem e_turned_by (w : List Nat) (b : Nat) (h : Hd) (hw : w.length ≤ 100000) (hb : b ≤ w.length) : F_turned_by [.t (.str (tx w)), .t (.int (b : Nat))] h = some (.ok (.t (.str (tx (LT.rot w b)))) h) := by
  have hw' : w.length ≤ 16777216 := by omega
  have hl : (w.drop b).length + (w.take b).length ≤ 16777216 := by simp; omega
  rw [LT.rot_eq hb]
  generalize h1 : w.drop b = A at *
  generalize h2 : w.take b = B at *
  simp -implicitDefEqProofs [F_turned_by, g_turned_by, tx_len, hw', cut_tx, cut_from, cut_to, h1, h2, hl, tx_add]
theorem dbl_at {w : List Nat} {x : Nat} (h : x < w.length + w.length) : atI (w ++ w) (x : Int) = some (LT.cc w x) := by
  rw [atI_nat (by simpa using h)]
  congr 1
  have h0 : 0 < w.length := by omega
  by_cases q : x < w.length
  · rw [List.getElem_append_left q, LT.cc_lt q]
  · rw [List.getElem_append_right (by omega), ← LT.cc_mod w x, Nat.mod_eq_sub_mod (by omega), LT.cc_mod, LT.cc_lt (by omega)]
theorem gt_one (a b : Nat) : gtP (.str (tx [a])) (.str (tx [b])) = some (.bool (decide (b < a))) := by
  show some (PyData.bool (decide ([b] < [a]))) = _
  congr 2
  rw [decide_eq_decide]
  constructor
  · intro h
    cases h with
    | rel h => exact h
    | cons h => cases h
  · intro h; exact List.Lex.rel h
/-- the loop's state: one, other, same -/
def ltS (w : List Nat) (s : Nat × Nat × Nat) : DS := [some (.t (.str (tx w))), some (.t (.str (tx (w ++ w)))), some (.t (.int (s.1 : Nat))), some (.t (.int (s.2.1 : Nat))), some (.t (.int (s.2.2 : Nat)))]
def ltT : DS → M Bool := (tAndD (dTest (dBin ltP (eVar 2) (dCW lenP (aCons (eVar 0) aNil)))) (tAndD (dTest (dBin ltP (eVar 3) (dCW lenP (aCons (eVar 0) aNil)))) (dTest (dBin ltP (eVar 4) (dCW lenP (aCons (eVar 0) aNil))))))
def ltB : SM := (sIf (dTest (dBin eqP (dIx ixP (eVar 1) (dBin addP (eVar 2) (eVar 4))) (dIx ixP (eVar 1) (dBin addP (eVar 3) (eVar 4))))) (sSet 4 (dBin addP (eVar 4) (eC (.t (.int 1))))) (sIf (dTest (dBin gtP (dIx ixP (eVar 1) (dBin addP (eVar 2) (eVar 4))) (dIx ixP (eVar 1) (dBin addP (eVar 3) (eVar 4))))) (sSeq (sPar 2 4 (aCons (dCW maxQ (aCons (dBin addP (dBin addP (eVar 2) (eVar 4)) (eC (.t (.int 1)))) (aCons (eVar 3) aNil))) (aCons (eC (.t (.int 0))) aNil))) (sSet 3 (dBin addP (eVar 2) (eC (.t (.int 1)))))) (sPar 3 4 (aCons (dBin addP (dBin addP (eVar 3) (eVar 4)) (eC (.t (.int 1)))) (aCons (eC (.t (.int 0))) aNil)))))
theorem lt_test (w : List Nat) (s : Nat × Nat × Nat) (h : Hd) (hw : w.length ≤ 100000) : ltT (ltS w s) h = some (.ok (decide (s.1 < w.length) && (decide (s.2.1 < w.length) && decide (s.2.2 < w.length))) h) := by
  have hw' : w.length ≤ 16777216 := by omega
  obtain ⟨i, j, k⟩ := s
  unfold ltT ltS
  by_cases h1 : i < w.length <;> by_cases h2 : j < w.length <;> by_cases h3 : k < w.length <;> simp -implicitDefEqProofs [tx_len, hw', h1, h2, h3]
theorem lt_body (w : List Nat) (i j k : Nat) (h : Hd) (hw : w.length ≤ 100000) (h1 : i < w.length) (h2 : j < w.length) (h3 : k < w.length) :
    ltB (ltS w (i, j, k)) h = some (.nx, ltS w (if LT.cc w (i + k) = LT.cc w (j + k) then (i, j, k + 1) else if LT.cc w (j + k) < LT.cc w (i + k) then (max (i + k + 1) j, max (i + k + 1) j + 1, 0) else (i, j + k + 1, 0)), h) := by
  have hww : (w ++ w).length ≤ 16777216 := by simp; omega
  have d1 : atI (w ++ w) ((i : Int) + (k : Int)) = some (LT.cc w (i + k)) := by
    rw [show ((i : Int) + (k : Int)) = ((i + k : Nat) : Int) by omega]; exact dbl_at (by omega)
  have d2 : atI (w ++ w) ((j : Int) + (k : Int)) = some (LT.cc w (j + k)) := by
    rw [show ((j : Int) + (k : Int)) = ((j + k : Nat) : Int) by omega]; exact dbl_at (by omega)
  generalize hV : w ++ w = V at *
  unfold ltB ltS
  rw [hV]
  by_cases q : LT.cc w (i + k) = LT.cc w (j + k)
  · rw [if_pos q]
    simp -implicitDefEqProofs [tx_len, hww, d1, d2, q, tx_inj]
  · rw [if_neg q]
    by_cases g : LT.cc w (j + k) < LT.cc w (i + k)
    · rw [if_pos g]
      have mx : maxQ [.int ((i : Int) + (k : Int) + 1), .int (j : Nat)] = some (.int ((max (i + k + 1) j : Nat) : Int)) := by
        show some (PyData.int (if (j : Int) > (i : Int) + (k : Int) + 1 then (j : Int) else (i : Int) + (k : Int) + 1)) = _
        congr 2
        split <;> omega
      generalize max (i + k + 1) j = mm at *
      simp -implicitDefEqProofs [tx_len, hww, d1, d2, q, tx_inj, gt_one, g, mx]
    · rw [if_neg g]
      simp -implicitDefEqProofs [tx_len, hww, d1, d2, q, tx_inj, gt_one, g]
theorem e_least_turn (w : List Nat) (m : Nat) (h : Hd) (hw : w.length ≤ 100000) (f : LT.Fst w m) : F_least_turn [.t (.str (tx w))] h = some (.ok (.t (.int (m : Nat))) h) := by
  have h0 : 0 < w.length := by have := f.1; omega
  obtain ⟨⟨i, j, k⟩, e1, i1, e3⟩ := whileN_run (t := ltT) (b := ltB) (fun s : Nat × Nat × Nat => ltS w s) (fun _ => h) (fun s => LT.Iv w m s.1 s.2.1 s.2.2) (fun s => decide (s.1 < w.length) && (decide (s.2.1 < w.length) && decide (s.2.2 < w.length))) (fun s => 10 * w.length + 10 - (s.1 + s.2.1 + s.2.2))
    (fun s _ => lt_test w s h hw)
    (fun s hs hc => by
      obtain ⟨i, j, k⟩ := s
      simp at hc
      obtain ⟨h1, h2, h3⟩ := hc
      refine ⟨_, lt_body w i j k h hw h1 h2 h3, ?_⟩
      by_cases q : LT.cc w (i + k) = LT.cc w (j + k)
      · rw [if_pos q]
        exact ⟨LT.iv_eq hs h3 q, by simp; omega⟩
      · rw [if_neg q]
        by_cases g : LT.cc w (j + k) < LT.cc w (i + k)
        · rw [if_pos g]
          exact ⟨LT.iv_gt f hs h3 g, by simp; omega⟩
        · rw [if_neg g]
          have l : LT.cc w (i + k) < LT.cc w (j + k) := by omega
          exact ⟨LT.iv_lt f hs h3 l, by simp; omega⟩) fu (0, 1, 0) ⟨by show 0 < 1; omega, by show m = 0 ∨ 1 ≤ m; omega, by show 0 ≤ _; omega, fun t ht => absurd ht (Nat.not_lt_zero _)⟩ (by rw [fu_eq]; simp; omega)
  have im : i = m := LT.iv_end f i1 (by
    simp at e3
    intro q
    have q1 : i < w.length := q.1
    have q2 : j < w.length := q.2.1
    have q3 : k < w.length := q.2.2
    have := e3 q1 q2
    omega)
  subst im
  have hww : w.length + w.length ≤ 16777216 := by omega
  unfold ltT ltB ltS at e1
  have hw1 : w.length ≤ 16777216 := by omega
  simp only [Int.natCast_zero, Int.natCast_one] at e1
  generalize hV : w ++ w = V at *
  simp -implicitDefEqProofs [F_least_turn, g_least_turn, sWhile, tx_len, hww, tx_add, hV, sAsg, gT, gsCons, gsNil, e1]
theorem e_ring_by (w : List Nat) (m : Nat) (h : Hd) (hw : w.length ≤ 100000) (f : LT.Fst w m) : F_ring_by [.t (.str (tx w))] h = some (.ok (.t (.str (tx (LT.rot w m)))) h) := by
  have hm : m ≤ w.length := Nat.le_of_lt f.1
  simp -implicitDefEqProofs [F_ring_by, g_ring_by, e_least_turn w m h hw f, e_turned_by w m h hw hm]
def ringB (w : List Nat) : Bool := (List.range w.length).all fun x => !decide (LT.rot w x < w)
theorem rot_zero (w : List Nat) : LT.rot w 0 = w := by
  rw [LT.rot_eq (Nat.zero_le _)]; simp
theorem ringB_iff {w : List Nat} {m : Nat} (f : LT.Fst w m) : ringB w = true ↔ LT.rot w m = w := by
  unfold ringB
  rw [List.all_eq_true]
  constructor
  · intro h
    have h1 : ¬ LT.rot w m < w := by
      have := h m (List.mem_range.mpr f.1)
      simpa using this
    have h2 : ¬ w < LT.rot w m := by
      have := LT.least_all f 0
      rwa [rot_zero] at this
    exact List.le_antisymm (List.not_lt.mp h2) (List.not_lt.mp h1)
  · intro e x hx
    have := LT.least_all f x
    rw [e] at this
    simpa using this
def isRing : PyData → Bool
  | .str x => decide (1 ≤ x.length) && (decide (x.length ≤ 40000) && (x.cps.toList.all (fun c => decide (c ∈ AZ)) && ringB x.cps.toList))
  | _ => false
theorem tx_cps (x : Str) : tx x.cps.toList = x := by cases x; rfl
theorem e_check_full {w : List Nat} (hw : Rw w) (h0 : w ≠ []) (h : Hd) : F_check_full [.t (.str (tx w))] h = some (.ok (.t .none) h) := by
  have e : Str.ofString "" = tx [] := by decide +kernel
  have q : ¬ tx w = tx [] := by rw [tx_inj]; exact h0
  simp -implicitDefEqProofs [F_check_full, g_check_full, e_chk hw, e, q, tx_inj, h0]
theorem e_ring_of {w : List Nat} {m : Nat} (hw : Rw w) (h0 : w ≠ []) (f : LT.Fst w m) (h : Hd) : F_ring_of [.t (.str (tx w))] h = some (.ok (.t (.str (tx (LT.rot w m)))) h) := by
  have := hw.2
  simp -implicitDefEqProofs [F_ring_of, g_ring_of, e_check_full hw h0, e_ring_by w m h (by omega) f]
theorem perb_per {w : List Nat} {p : Nat} : perb w p = true ↔ LT.Per w p := by
  rw [perb_iff]
  constructor
  · intro h i hi; exact h i (by omega)
  · intro h i hi; exact h i (by omega)
theorem per_len (w : List Nat) : LT.Per w w.length := fun i hi => by omega
theorem pers_head {w : List Nat} (h0 : 0 < w.length) : ∃ p rest, pers w = p :: rest ∧ 0 < p ∧ p ≤ w.length ∧ LT.Per w p ∧ ∀ q, 0 < q → LT.Per w q → p ≤ q := by
  have hn : w.length ∈ pers w := by
    unfold pers
    rw [List.mem_filter]
    exact ⟨List.mem_map.mpr ⟨w.length - 1, List.mem_range.mpr (by omega), by omega⟩, perb_per.mpr (per_len w)⟩
  cases e : pers w with
  | nil => rw [e] at hn; simp at hn
  | cons p rest =>
    have hp : p ∈ pers w := by rw [e]; simp
    have hp1 := hp
    unfold pers at hp
    rw [List.mem_filter] at hp
    obtain ⟨i, hi, rfl⟩ := List.mem_map.mp hp.1
    have hi' := List.mem_range.mp hi
    refine ⟨1 + i, rest, rfl, by omega, by omega, perb_per.mp hp.2, fun q q0 hq => ?_⟩
    by_cases ql : q ≤ w.length
    · have sorted : (pers w).Pairwise (· < ·) := by
        unfold pers
        apply List.Pairwise.filter
        rw [List.pairwise_map]
        exact List.pairwise_lt_range.imp fun h => by omega
      have hqm : q ∈ pers w := by
        unfold pers
        rw [List.mem_filter]
        exact ⟨List.mem_map.mpr ⟨q - 1, List.mem_range.mpr (by omega), by omega⟩, perb_per.mpr hq⟩
      rw [e] at sorted hqm
      rcases List.mem_cons.mp hqm with r | r
      · omega
      · have := (List.pairwise_cons.mp sorted).1 q r
        omega
    · omega
/-- the root's length -/
def RootOf (w : List Nat) (r : Nat) : Prop := 0 < r ∧ r ∣ w.length ∧ LT.Per w r ∧ ∀ d, 0 < d → d ∣ w.length → LT.Per w d → r ≤ d
theorem root_one {w : List Nat} {r s : Nat} (a : RootOf w r) (b : RootOf w s) : r = s :=
  Nat.le_antisymm (a.2.2.2 s b.1 b.2.1 b.2.2.1) (b.2.2.2 r a.1 a.2.1 a.2.2.1)
theorem root_p {w : List Nat} {p : Nat} (h0 : 0 < w.length) (p0 : 0 < p) (hp : LT.Per w p) (pm : ∀ q, 0 < q → LT.Per w q → p ≤ q) : RootOf w (if w.length % p = 0 then p else w.length) := by
  by_cases q : w.length % p = 0
  · rw [if_pos q]
    exact ⟨p0, Nat.dvd_of_mod_eq_zero q, hp, fun d d0 _ hd => pm d d0 hd⟩
  · rw [if_neg q]
    refine ⟨h0, Nat.dvd_refl _, per_len w, fun d d0 dn hd => ?_⟩
    by_cases dl : d < w.length
    · exact absurd (Nat.mod_eq_zero_of_dvd (LT.root_is hp p0 pm hd d0 dn dl)) q
    · omega
theorem root_ex {w : List Nat} (h0 : 0 < w.length) : ∃ r, RootOf w r := by
  obtain ⟨p, _, _, p0, _, hp, pm⟩ := pers_head h0
  exact ⟨_, root_p h0 p0 hp pm⟩
theorem root_le {w : List Nat} {r : Nat} (h0 : 0 < w.length) (a : RootOf w r) : r ≤ w.length := Nat.le_of_dvd h0 a.2.1
theorem e_root_by {w : List Nat} {r : Nat} (hw : w.length ≤ 4000) (h0 : 0 < w.length) (hr : RootOf w r) (h : Hd) : F_root_by [.t (.str (tx w))] h = some (.ok (.t (.str (tx (w.take r)))) h) := by
  have hw' : w.length ≤ 16777216 := by omega
  obtain ⟨p, rest, e, p0, pl, hp, pm⟩ := pers_head h0
  have er := e_periods_of w h hw
  rw [e, List.map_cons] at er
  have a0 : atI (PyData.int (p : Nat) :: rest.map fun k => PyData.int (k : Nat)) 0 = some (.int (p : Nat)) := atI_nat (i := 0) (by simp)
  have hR := root_one hr (root_p h0 p0 hp pm)
  by_cases q : w.length % p = 0
  · rw [if_pos q] at hR
    subst hR
    have q' : ((w.length : Int) % (r : Int)) = 0 := by omega
    simp -implicitDefEqProofs [F_root_by, g_root_by, er, a0, tx_len, hw', p0, q', cut_tx, cut_to]
  · rw [if_neg q] at hR
    subst hR
    have q' : ¬ ((w.length : Int) % (p : Int)) = 0 := by omega
    have tk : w.take w.length = w := List.take_length
    simp -implicitDefEqProofs [F_root_by, g_root_by, er, a0, tx_len, hw', p0, q', tk]
theorem take_ne {w : List Nat} {r : Nat} (h0 : 0 < w.length) (a : RootOf w r) : (w.take r).length = r := by
  have := root_le h0 a
  simp; omega
theorem e_root_of {w : List Nat} {r : Nat} (hw : Rw w) (h0 : w ≠ []) (hr : RootOf w r) (h : Hd) : F_root_of [.t (.str (tx w))] h = some (.ok (.t (.str (tx (w.take r)))) h) := by
  have := hw.2
  have hl : 0 < w.length := List.length_pos_iff.mpr h0
  simp -implicitDefEqProofs [F_root_of, g_root_of, e_check_full hw h0, e_root_by (by omega) hl hr]
def turnL (w : List Nat) : List PyData := (List.range w.length).map fun i => .str (tx (LT.rot w i))
theorem e_law_turns {w : List Nat} (hw : w.length ≤ 4000) (h : Hd) : F__law_turns [.t (.str (tx w))] h = some (.ok (.t (.list (turnL w))) h) := by
  have hw' : w.length ≤ 16777216 := by omega
  have lc := lc_rngM (S := [some (.t (.str (tx w))), none]) (h := h) (lo := 0) (n := w.length) (m := iRg1 (aCons (dCW lenP (aCons (eVar 0) aNil)) aNil)) (f := gN 1) (t := tYesD) (e := dBin addP (dSl false (eVar 0) (oSome (eVar 1)) oNone) (dSl false (eVar 0) oNone (oSome (eVar 1)))) (own := [1]) (fun i => .str (tx (LT.rot w i))) (by
    have q : w.length < 4611686018427387904 := by omega
    simp -implicitDefEqProofs [tx_len, hw', q]) (by simp; omega) (by
    intro i hi acc
    have hl : (w.drop i).length + (w.take i).length ≤ 16777216 := by simp; omega
    rw [LT.rot_eq (Nat.le_of_lt hi)]
    generalize h1 : w.drop i = A at *
    generalize h2 : w.take i = B at *
    simp -implicitDefEqProofs [tx_len, hw', cut_tx, cut_from, cut_to, h1, h2, hl, tx_add])
  simp -implicitDefEqProofs [F__law_turns, g__law_turns, lc, turnL]
theorem str_map {γ : Type} (l : List γ) (f : γ → Str) : strsP (l.map fun x => .str (f x)) = some (l.map f) := by
  induction l with
  | nil => rfl
  | cons x l ih => simp [strsP, ih]
def sortT (w : List Nat) (r : Nat) : List PyData := (sortS ((List.range r).map fun i => tx (LT.rot w i))).map .str
theorem ints_none {γ : Type} (l : List γ) (f : γ → Str) (h : l ≠ []) : intsP (l.map fun x => .str (f x)) = none := by
  cases l with
  | nil => exact absurd rfl h
  | cons x l => rfl
/-! the distinct turns -/
theorem rot_eq_cper {w : List Nat} {i j : Nat} (hij : i ≤ j) (h0 : 0 < w.length) (e : LT.rot w i = LT.rot w j) : LT.CPer w (j - i) := by
  have key : ∀ t, t < w.length → LT.cc w (i + t) = LT.cc w (j + t) := fun t ht => by
    have h1 : t < (LT.rot w i).length := by rw [LT.rot_len]; exact ht
    have h2 : t < (LT.rot w j).length := by rw [LT.rot_len]; exact ht
    rw [← LT.rot_get w i t h1, ← LT.rot_get w j t h2]
    congr 1
  have all : ∀ t, LT.cc w (i + t) = LT.cc w (j + t) := fun t => by
    have := key (t % w.length) (Nat.mod_lt _ h0)
    have aux : ∀ x, LT.cc w (x + t % w.length) = LT.cc w (x + t) := fun x => by
      rw [← LT.cc_mod w (x + t % w.length), ← LT.cc_mod w (x + t)]
      congr 1
      simp [Nat.add_mod]
    rwa [aux, aux] at this
  intro x
  -- x = i + t around
  have ex : ∃ t, (i + t) % w.length = x % w.length := by
    refine ⟨x + i * (w.length - 1), ?_⟩
    have : i + (x + i * (w.length - 1)) = x + i * w.length := by
      obtain ⟨n, hn⟩ : ∃ n, w.length = n + 1 := ⟨w.length - 1, by omega⟩
      rw [hn, Nat.add_sub_cancel, Nat.mul_succ]
      omega
    rw [this, Nat.add_mul_mod_self_right]
  obtain ⟨t, ht⟩ := ex
  have h1 := all t
  rw [← LT.cc_mod w (i + t), ht, LT.cc_mod] at h1
  rw [h1, ← LT.cc_mod w (x + (j - i)), ← LT.cc_mod w (j + t)]
  congr 1
  have : j + t = i + t + (j - i) := by omega
  rw [this, Nat.add_mod x, Nat.add_mod (i + t), ht]
theorem rot_inj {w : List Nat} {r i j : Nat} (h0 : 0 < w.length) (hr : RootOf w r) (hij : i < j) (hj : j < r) : LT.rot w i ≠ LT.rot w j := fun e => by
  have c := rot_eq_cper (Nat.le_of_lt hij) h0 e
  obtain ⟨q, q0, ql, qd, qc⟩ := LT.cper_least h0 (by omega) c
  have := hr.2.2.2 q q0 qd (LT.cper_per qc)
  omega
theorem rot_cover {w : List Nat} {r : Nat} (h0 : 0 < w.length) (hr : RootOf w r) (x : Nat) : LT.rot w x = LT.rot w (x % r) := by
  have c := LT.per_cper hr.2.2.1 hr.2.1 h0
  unfold LT.rot
  apply List.map_congr_left
  intro t _
  have := LT.cper_mul c (x / r) (x % r + t)
  rw [← this]
  congr 1
  have := Nat.mod_add_div x r
  rw [Nat.mul_comm] at this
  omega
theorem uni_range {f : Nat → Str} {r : Nat} (hi : ∀ i j, i < j → j < r → f i ≠ f j) (hc : ∀ x, r ≤ x → ∃ i, i < r ∧ f x = f i) : ∀ n, uniS [] ((List.range n).map f) = (List.range (min n r)).map f
  | 0 => by simp [uniS]
  | n + 1 => by
    have ih := uni_range hi hc n
    rw [List.range_succ, List.map_append]
    unfold uniS at ih ⊢
    rw [List.foldl_append, ih]
    show (if f n ∈ _ then _ else _) = _
    by_cases q : n < r
    · rw [Nat.min_eq_left (by omega), Nat.min_eq_left (by omega)]
      rw [if_neg, List.range_succ, List.map_append]
      · rfl
      · intro m
        obtain ⟨i, h1, h2⟩ := List.mem_map.mp m
        exact hi i n (List.mem_range.mp h1) q h2
    · rw [Nat.min_eq_right (by omega), Nat.min_eq_right (by omega)]
      rw [if_pos]
      obtain ⟨i, h1, h2⟩ := hc n (by omega)
      exact List.mem_map.mpr ⟨i, List.mem_range.mpr h1, h2.symm⟩
theorem uni_turns {w : List Nat} {r : Nat} (h0 : 0 < w.length) (hr : RootOf w r) : uniS [] ((List.range w.length).map fun i => tx (LT.rot w i)) = (List.range r).map fun i => tx (LT.rot w i) := by
  have := uni_range (f := fun i => tx (LT.rot w i)) (r := r) (fun i j hij hj e => rot_inj h0 hr hij hj (tx_inj.mp e)) (fun x hx => ⟨x % r, Nat.mod_lt _ hr.1, congrArg tx (rot_cover h0 hr x)⟩) w.length
  rwa [Nat.min_eq_right (root_le h0 hr)] at this
theorem keys_map {γ : Type} (l : List γ) (f : γ → Str) (g : γ → PyData) : keysP (l.map fun x => .tuple [.str (f x), g x]) = some (l.map f) := by
  induction l with
  | nil => rfl
  | cons x l ih => simp [keysP, ih]
def rnd (w : List Nat) (a k : Nat) : List Nat := (List.range k).map fun s => LT.cc w (a + s)
theorem flat_len (k : Nat) (w : List Nat) : (List.replicate k w).flatten.length = k * w.length := by simp
theorem rnd_len (w : List Nat) (a k : Nat) : (rnd w a k).length = k := by simp [rnd]
theorem flat_get (w : List Nat) (h0 : 0 < w.length) : ∀ (k i : Nat), i < k * w.length → ((List.replicate k w).flatten)[i]? = some (LT.cc w i)
  | 0, i, h => by omega
  | k + 1, i, h => by
    rw [List.replicate_succ, List.flatten_cons]
    by_cases q : i < w.length
    · rw [List.getElem?_append_left q, List.getElem?_eq_getElem q, LT.cc_lt q]
    · rw [List.getElem?_append_right (by omega), flat_get w h0 k (i - w.length) (by rw [Nat.succ_mul] at h; omega)]
      congr 1
      rw [← LT.cc_mod w i, Nat.mod_eq_sub_mod (by omega), LT.cc_mod]
theorem rnd_cut (w : List Nat) (h0 : 0 < w.length) (a k t : Nat) (h : a + k ≤ t * w.length) : (((List.replicate t w).flatten).drop a).take k = rnd w a k := by
  apply List.ext_getElem?
  intro i
  by_cases q : i < k
  · rw [List.getElem?_take_of_lt q, List.getElem?_drop, flat_get w h0 t (a + i) (by omega)]
    simp [rnd, q]
  · rw [List.getElem?_eq_none (by simp; omega), List.getElem?_eq_none (by simp [rnd]; omega)]
theorem fdiv_nat {a b : Nat} (h0 : 0 < b) (h1 : b < 2 ^ 20) : fdivP (.int (a : Nat)) (.int (b : Nat)) = some (.int ((a / b : Nat) : Int)) := by
  have lgr : (b : Int).natAbs.log2 < 9000 := by
    have := lg h1
    simp
    omega
  show (if _ then _ else _) = _
  rw [if_pos ⟨by omega, lgr⟩]
  rfl
theorem sl_ab {S : DS} {h : Hd} {ma : DS → M D} {ml mh : DS → M (Option Int)} {F : List Nat} {lo hi : Option Int} (em : ma S h = some (.ok (.t (.str (tx F))) h)) (el : ml S h = some (.ok lo h)) (eh : mh S h = some (.ok hi h)) (fl : F.length ≤ 16777216) : dSl false ma ml mh S h = some (.ok (.t (.str (tx (cutP F lo hi)))) h) := by
  simp -implicitDefEqProofs [em, el, eh, tx_len, fl, cut_tx]
def rndL (w : List Nat) (k : Nat) : List PyData := (List.range w.length).map fun a => .str (tx (rnd w a k))
theorem lcE_call {f : PyData → DS → Option DS} {F : List D → M D} {ms : DS → M (List D)} {own : List Nat} {S S1 : DS} {x z : PyData} {ds : List D} {h : Hd} (hg : f x (wipeD S own) = some S1) (hm : ms S1 h = some (.ok ds h)) (hF : F ds h = some (.ok (.t z) h)) : lcE f tYesD (dCall F ms) own S x h = some (.ok (some z) h) := by
  simp -implicitDefEqProofs [hg, hm, hF]
theorem rg_of {w : List Nat} (hw : Rw w) (h0 : w ≠ []) (hr : ringB w = true) : isRing (.str (tx w)) = true := by
  have h1 : 1 ≤ w.length := List.length_pos_iff.mpr h0
  have h2 := hw.2
  have h3 : w.length ≤ 40000 := by omega
  simp only [isRing, tx_len, decide_eq_true h1, decide_eq_true h3, Bool.true_and]
  rw [hr, Bool.and_true, List.all_eq_true]
  intro c hc
  exact decide_eq_true (hw.1 c hc)
def plR (w p : List Nat) : List PyData := (List.range w.length).filterMap fun a => if rnd w a p.length = p then some (.int (a : Nat)) else none
/-! the root, by this law -/
def rootb (w : List Nat) (d : Nat) : Bool := decide (w.length % d = 0) && decide ((List.replicate (w.length / d) (w.take d)).flatten = w)
theorem rootb_iff {w : List Nat} {d : Nat} (d0 : 0 < d) (dl : d ≤ w.length) : rootb w d = true ↔ d ∣ w.length ∧ LT.Per w d := by
  unfold rootb
  rw [Bool.and_eq_true, decide_eq_true_iff, decide_eq_true_iff]
  have tl : (w.take d).length = d := by simp; omega
  constructor
  · rintro ⟨h1, h2⟩
    have dv := Nat.dvd_of_mod_eq_zero h1
    refine ⟨dv, fun i hi => ?_⟩
    have hk : w.length / d * (w.take d).length = w.length := by rw [tl]; exact Nat.div_mul_cancel dv
    have g : ∀ j, j < w.length → w.getD j 0 = LT.cc (w.take d) j := fun j hj => by
      have := flat_get (w.take d) (by omega) (w.length / d) j (by rw [hk]; exact hj)
      rw [h2] at this
      simp [this]
    rw [g i (by omega), g (i + d) hi, ← LT.cc_mod (w.take d) (i + d), tl, Nat.add_mod_right, ← LT.cc_mod (w.take d) i, tl]
  · rintro ⟨h1, h2⟩
    refine ⟨Nat.mod_eq_zero_of_dvd h1, ?_⟩
    have hk : w.length / d * (w.take d).length = w.length := by rw [tl]; exact Nat.div_mul_cancel h1
    apply List.ext_getElem?
    intro i
    by_cases q : i < w.length
    · rw [flat_get (w.take d) (by omega) (w.length / d) i (by rw [hk]; exact q)]
      have hm : i % d < d := Nat.mod_lt _ d0
      have e1 : LT.cc (w.take d) i = w.getD (i % d) 0 := by
        unfold LT.cc
        rw [tl]
        simp [List.getElem?_take, hm]
      have e2 := LT.per_mul h2 (i / d) (i % d) (by rw [Nat.mul_comm, Nat.mod_add_div]; exact q)
      rw [Nat.mul_comm, Nat.mod_add_div] at e2
      rw [e1, e2]
      simp [q]
    · rw [List.getElem?_eq_none (by rw [flat_len, hk]; omega), List.getElem?_eq_none (by omega)]
theorem fm_first {α : Type} {f : Nat → Option α} {a n : Nat} {v : α} (ha : a < n) (hv : f a = some v) (hn : ∀ j, j < a → f j = none) : ∃ rest, (List.range n).filterMap f = v :: rest := by
  obtain ⟨s, rfl⟩ : ∃ s, n = a + (s + 1) := ⟨n - a - 1, by omega⟩
  rw [List.range_add, List.filterMap_append, List.range_succ_eq_map]
  have h1 : (List.range a).filterMap f = [] := by
    rw [List.filterMap_eq_nil_iff]
    intro j hj
    exact hn j (List.mem_range.mp hj)
  rw [h1]
  simp [hv]
theorem ok_tx {w : List Nat} (hw : Cw w) : PyData.strOk (tx w) = true := by
  unfold PyData.strOk
  rw [Array.all_eq_true_iff_forall_mem]
  intro x hx
  have := hw x (by simpa using hx)
  simpa using this
theorem ok_shb (b : Bool) : PyData.strOk (PyData.bool b).shown = true := by cases b <;> decide +kernel
theorem lay_strs {γ : Type} {l : List γ} {f : γ → Str} (hf : ∀ x ∈ l, PyData.strOk (f x) = true) : PyData.canLayAll0 (l.map fun x => .str (f x)) = true ∧ PyData.depthAll (l.map fun x => PyData.str (f x)) = 0 := by
  induction l with
  | nil => simp [PyData.canLayAll0, PyData.depthAll]
  | cons y ys ih =>
    have := hf y (by simp)
    simp [PyData.canLayAll0, PyData.depthAll, ih (fun z hz => hf z (by simp [hz])), PyData.canLay0, PyData.depth, this]
theorem sh_strs {γ : Type} {l : List γ} {f : γ → Str} (hf : ∀ x ∈ l, PyData.strOk (f x) = true) : SeqAt.shaped (.list (l.map fun x => .str (f x))) = true := by
  simp [SeqAt.shaped, PyData.canLay0, PyData.depth, lay_strs hf]
theorem alike_strs {γ : Type} {l : List γ} {f : γ → Str} : alikeB (l.map fun x => .str (f x)) = true := by
  simp [alikeB, PySem.W.alike]
theorem minD_str : ∀ (l : List (List Nat)) (x m : List Nat), (m = x ∨ m ∈ l) → (∀ y ∈ l, ¬ y < m) → ¬ x < m → PySem.W.minD (.str (tx x)) (l.map fun y => .str (tx y)) = .str (tx m)
  | [], x, m, h, _, _ => by
    rcases h with h | h
    · rw [h]; rfl
    · simp at h
  | y :: l, x, m, h, h1, h2 => by
    have ih := minD_str l
    unfold PySem.W.minD at ih ⊢
    rw [List.map_cons, List.foldl_cons, PySem.W.dataLt_str]
    have e : (decide ((tx y).cps.toList < (tx x).cps.toList)) = decide (y < x) := by simp
    rw [e]
    have hy : ¬ y < m := h1 y (by simp)
    by_cases q : y < x
    · simp only [q, decide_true, if_true]
      refine ih y m ?_ (fun z hz => h1 z (by simp [hz])) hy
      rcases h with h | h
      · exact absurd (h ▸ q) hy
      · exact (List.mem_cons.mp h)
    · simp only [q, decide_false]
      refine ih x m ?_ (fun z hz => h1 z (by simp [hz])) h2
      rcases h with h | h
      · exact Or.inl h
      · rcases List.mem_cons.mp h with h | h
        · subst h
          exact Or.inl (List.le_antisymm (List.not_lt.mp h2) (List.not_lt.mp q))
        · exact Or.inr h
theorem rot_cw {w : List Nat} (hw : Cw w) (a : Nat) : Cw (LT.rot w a) := by
  intro c hc
  unfold LT.rot at hc
  obtain ⟨t, ht, rfl⟩ := List.mem_map.mp hc
  have ht := List.mem_range.mp ht
  have hm : (a + t) % w.length < w.length := Nat.mod_lt _ (by omega)
  unfold LT.cc
  rw [List.getD_eq_getElem?_getD, List.getElem?_eq_getElem hm]
  exact hw _ (List.getElem_mem hm)
theorem min_turns {w : List Nat} {m : Nat} (hw : Cw w) (f : LT.Fst w m) : minQ [.list (turnL w)] = some (.str (tx (LT.rot w m))) := by
  have h0 : 0 < w.length := by have := f.1; omega
  have e0 : turnL w = ((List.range w.length).map (LT.rot w)).map fun y => PyData.str (tx y) := by
    rw [List.map_map]; rfl
  have m1 : minP [.list (turnL w)] = none := by
    show (intsP (turnL w)).bind _ = none
    have := ints_none (List.range w.length) (fun i => tx (LT.rot w i)) (by intro e; rw [List.range_eq_nil] at e; omega)
    unfold turnL
    rw [this]; rfl
  unfold minQ
  rw [m1, Option.none_or]
  have sh : SeqAt.shaped (.list (turnL w)) = true := sh_strs fun i _ => ok_tx (rot_cw hw i)
  have al : alikeB (turnL w) = true := alike_strs
  obtain ⟨x, l, hl⟩ : ∃ x l, (List.range w.length).map (LT.rot w) = x :: l := by
    cases e : (List.range w.length).map (LT.rot w) with
    | nil => rw [List.map_eq_nil_iff, List.range_eq_nil] at e; omega
    | cons x l => exact ⟨x, l, rfl⟩
  rw [hl] at e0
  rw [e0] at sh al ⊢
  have md := minD_str l x (LT.rot w m) (by
    have : LT.rot w m ∈ (List.range w.length).map (LT.rot w) := List.mem_map.mpr ⟨m, List.mem_range.mpr f.1, rfl⟩
    rw [hl] at this
    exact List.mem_cons.mp this) (fun y hy => by
      have : y ∈ (List.range w.length).map (LT.rot w) := by rw [hl]; simp [hy]
      obtain ⟨i, _, rfl⟩ := List.mem_map.mp this
      exact LT.least_all f i) (by
      have : x ∈ (List.range w.length).map (LT.rot w) := by rw [hl]; simp
      obtain ⟨i, _, rfl⟩ := List.mem_map.mp this
      exact LT.least_all f i)
  rw [List.map_cons] at sh al ⊢
  show (if _ && _ then some (PySem.W.minD _ _) else none) = _
  rw [sh, al, md]
  rfl
theorem firstS_is {x : Str} : ∀ {ys : List Str} {j : Nat}, ys[j]? = some x → (∀ k, k < j → ys[k]? ≠ some x) → firstS x ys = some j
  | [], _, h, _ => by simp at h
  | y :: ys, 0, h, _ => by
    simp at h
    simp [firstS, h]
  | y :: ys, j + 1, h, hn => by
    have h1 : y ≠ x := fun e => hn 0 (by omega) (by simp [e])
    have ih := firstS_is (ys := ys) (j := j) (by simpa using h) (fun k hk e => hn (k + 1) (by omega) (by simpa using e))
    simp [firstS, h1, ih]
theorem index_turns {w : List Nat} {m : Nat} (f : LT.Fst w m) : indexP (.list (turnL w)) [.str (tx (LT.rot w m))] = some (.int (m : Nat)) := by
  show (strsP (turnL w)).bind _ = _
  unfold turnL
  rw [str_map (List.range w.length) (fun i => tx (LT.rot w i))]
  have hm := f.1
  have := firstS_is (x := tx (LT.rot w m)) (ys := (List.range w.length).map fun i => tx (LT.rot w i)) (j := m) (by simp [hm]) (fun k hk e => by
    have hk' : k < w.length := by omega
    simp [hk'] at e
    exact f.2.2 k hk e)
  simp [this]
theorem ringB_rot {w : List Nat} {m : Nat} (f : LT.Fst w m) : ringB (LT.rot w m) = true := by
  obtain ⟨m', g⟩ := LT.fst_ex (LT.rot w m) (by rw [LT.rot_len]; have := f.1; omega)
  rw [ringB_iff g]
  exact LT.least_rot f g
theorem ringB_turn {w : List Nat} {m a : Nat} (f : LT.Fst w m) : ringB (LT.rot w a) = decide (LT.rot w a = LT.rot w m) := by
  obtain ⟨m', g⟩ := LT.fst_ex (LT.rot w a) (by rw [LT.rot_len]; have := f.1; omega)
  have h := ringB_iff g
  rw [LT.least_rot f g] at h
  cases e : ringB (LT.rot w a) with
  | true => simp [h.mp e]
  | false =>
    have : ¬ LT.rot w a = LT.rot w m := fun q => by
      have := h.mpr q.symm
      rw [e] at this
      exact absurd this (by simp)
    simp [this]
theorem rot_az {w : List Nat} (hw : ∀ c ∈ w, c ∈ AZ) (a : Nat) : ∀ c ∈ LT.rot w a, c ∈ AZ := by
  intro c hc
  unfold LT.rot at hc
  obtain ⟨t, ht, rfl⟩ := List.mem_map.mp hc
  have ht := List.mem_range.mp ht
  have hm : (a + t) % w.length < w.length := Nat.mod_lt _ (by omega)
  unfold LT.cc
  rw [List.getD_eq_getElem?_getD, List.getElem?_eq_getElem hm]
  exact hw _ (List.getElem_mem hm)
theorem rnd_az {w : List Nat} (h0 : 0 < w.length) (hw : ∀ c ∈ w, c ∈ AZ) (a k : Nat) : ∀ c ∈ rnd w a k, c ∈ AZ := by
  intro c hc
  unfold rnd at hc
  obtain ⟨t, ht, rfl⟩ := List.mem_map.mp hc
  have hm : (a + t) % w.length < w.length := Nat.mod_lt _ h0
  unfold LT.cc
  rw [List.getD_eq_getElem?_getD, List.getElem?_eq_getElem hm]
  exact hw _ (List.getElem_mem hm)
theorem rot_rw {w : List Nat} (hw : Rw w) (a : Nat) : Rw (LT.rot w a) := ⟨rot_az hw.1 a, by rw [LT.rot_len]; exact hw.2⟩
theorem rot_ne {w : List Nat} (h0 : w ≠ []) (a : Nat) : LT.rot w a ≠ [] := fun e => by
  have := congrArg List.length e
  rw [LT.rot_len] at this
  exact h0 (List.length_eq_zero_iff.mp (by simpa using this))
/-! what may be shown -/
theorem okR_rndL {w : List Nat} (h0 : 0 < w.length) (hw : ∀ c ∈ w, c ∈ AZ) (hl : w.length ≤ 12) {k : Nat} (hk : k ≤ 400) : okR (.tuple (rndL w k)) = true := by
  refine okE_tup (B := 10 * 400 + 2) (fun d hd => ?_) (by simp [rndL]; omega)
  obtain ⟨i, _, rfl⟩ := List.mem_map.mp hd
  exact okE_str (fun c hc => az_lt c (rnd_az h0 hw i k c hc)) (by rw [rnd_len]; exact hk)
theorem okR_sort {w : List Nat} {r : Nat} (hw : ∀ c ∈ w, c ∈ AZ) (hl : w.length ≤ 12) (hr : r ≤ 12) : okR (.tuple (sortT w r)) = true := by
  refine okE_tup (B := 10 * 400 + 2) (fun d hd => ?_) (by
    unfold sortT
    rw [List.length_map, (sortS_perm _).length_eq]
    simp
    omega)
  unfold sortT at hd
  obtain ⟨s, hs, rfl⟩ := List.mem_map.mp hd
  have := (sortS_perm _).mem_iff.mp hs
  obtain ⟨i, _, rfl⟩ := List.mem_map.mp this
  exact okE_str (fun c hc => az_lt c (rot_az hw i c hc)) (by rw [LT.rot_len]; omega)
theorem plR_len (w p : List Nat) : (plR w p).length ≤ w.length := Nat.le_trans (List.length_filterMap_le _ _) (by simp)
theorem okR_plR {w p : List Nat} (hl : w.length ≤ 12) : okR (.tuple (plR w p)) = true := by
  have pl := plR_len w p
  refine okE_tup (B := 3) (fun d hd => ?_) (by omega)
  unfold plR at hd
  obtain ⟨i, hi, e⟩ := List.mem_filterMap.mp hd
  have hi := List.mem_range.mp hi
  split at e
  · cases e
    exact okE_int i (by omega)
  · cases e
theorem okR_int {k : Nat} (hk : k < 1000) : okR (.int (k : Nat)) = true := okR_one (okE_int k hk) (by omega)
theorem okR_bool (b : Bool) : okR (.bool b) = true := by cases b <;> decide
theorem wins_ring {w : List Nat} (h0 : 0 < w.length) {k : Nat} (hk : k ≤ w.length) : (wins (w ++ w) k).take w.length = rndL w k := by
  unfold wins rndL
  rw [← List.map_take, List.take_range, List.length_append, Nat.min_eq_left (by omega)]
  apply List.map_congr_left
  intro a ha
  have ha := List.mem_range.mp ha
  have e : w ++ w = (List.replicate 2 w).flatten := by simp [List.replicate_succ]
  rw [e, rnd_cut w h0 a k 2 (by omega)]
def upW (w : List Nat) : List Nat := w.map fun c => c - 32
theorem az_up : ∀ c ∈ AZ, Txt.upper (tx [c]) = tx [c - 32] := by decide +kernel
theorem up_tx : ∀ {w : List Nat}, (∀ c ∈ w, c ∈ AZ) → Txt.upper (tx w) = tx (upW w)
  | [], _ => by decide +kernel
  | c :: w, hw => by
    have e : tx (c :: w) = tx [c] ++ tx w := by rw [tx_add]; rfl
    rw [e, PySem.W.KOpn.upper_app, az_up c (hw c (by simp)), up_tx (w := w) (fun d hd => hw d (by simp [hd])), tx_add]
    rfl
theorem az_low : ∀ c ∈ AZ, Unicode.isLower c = true ∧ Unicode.isUpper c = false ∧ Unicode.isTitle c = false ∧ Unicode.isAlpha c = true := by decide +kernel
theorem az_upn : ∀ c ∈ AZ, Unicode.isLower (c - 32) = false ∧ (c - 32) ∉ AZ := by decide +kernel
theorem low_tx {w : List Nat} (hw : ∀ c ∈ w, c ∈ AZ) (h0 : w ≠ []) : Txt.islower (tx w) = true := by
  unfold Txt.islower
  have e1 : (tx w).cps.any Unicode.isLower = true := by
    rw [Array.any_eq_true]
    have h1 : 0 < w.length := List.length_pos_iff.mpr h0
    exact ⟨0, by simpa using h1, by simpa using (az_low _ (hw _ (List.getElem_mem h1))).1⟩
  have e2 : ((tx w).cps.any fun c => Unicode.isUpper c || Unicode.isTitle c) = false := by
    rw [Array.any_eq_false]
    intro i hi
    have hi' : i < w.length := by simpa using hi
    have := az_low _ (hw _ (List.getElem_mem hi'))
    simp [this]
  rw [e1, e2]; rfl
theorem upn_tx {w : List Nat} (hw : ∀ c ∈ w, c ∈ AZ) : Txt.islower (tx (upW w)) = false := by
  unfold Txt.islower
  have e1 : (tx (upW w)).cps.any Unicode.isLower = false := by
    rw [Array.any_eq_false]
    intro i hi
    have hi' : i < w.length := by simpa [upW] using hi
    have := az_upn _ (hw _ (List.getElem_mem hi'))
    simp [upW, this]
  rw [e1]; rfl
theorem alpha_tx {w : List Nat} (hw : ∀ c ∈ w, c ∈ AZ) (h0 : w ≠ []) : Txt.isalpha (tx w) = true := by
  unfold Txt.isalpha
  have e1 : (tx w).cps.all Unicode.isAlpha = true := by
    rw [Array.all_eq_true]
    intro i hi
    have hi' : i < w.length := by simpa using hi
    simpa using (az_low _ (hw _ (List.getElem_mem hi'))).2.2.2
  have h1 : 0 < w.length := List.length_pos_iff.mpr h0
  rw [e1, tx_len]
  simp [h1]
theorem alpha_no {w : List Nat} (c : Nat) (hc : c ∈ w) (hn : Unicode.isAlpha c = false) : Txt.isalpha (tx w) = false := by
  unfold Txt.isalpha
  have e1 : (tx w).cps.all Unicode.isAlpha = false := by
    rw [Array.all_eq_false]
    obtain ⟨i, hi, e⟩ := List.getElem_of_mem hc
    exact ⟨i, by simpa using hi, by simp [e, hn]⟩
  rw [e1, Bool.and_false]
theorem noRing {w : List Nat} (c : Nat) (hc : c ∈ w) (hn : c ∉ AZ) : isRing (.str (tx w)) = false := by
  have : (tx w).cps.toList.all (fun c => decide (c ∈ AZ)) = false := by
    rw [List.all_eq_false]
    exact ⟨c, by simpa using hc, by simpa using hn⟩
  simp only [isRing, this, Bool.false_and, Bool.and_false]
theorem isRing_az {w : List Nat} (hw : ∀ c ∈ w, c ∈ AZ) (h0 : w ≠ []) (hl : w.length ≤ 40000) : isRing (.str (tx w)) = ringB w := by
  have h1 : 1 ≤ w.length := List.length_pos_iff.mpr h0
  have e1 : (tx w).cps.toList = w := by simp
  have : w.all (fun c => decide (c ∈ AZ)) = true := by
    rw [List.all_eq_true]
    intro c hc
    exact decide_eq_true (hw c hc)
  simp only [isRing, tx_len, e1, this, decide_eq_true h1, decide_eq_true hl, Bool.true_and]
/-- the list of other values -/
def some2 (R T : List Nat) : List PyData := [.none, .int 7, .str (tx []), .str (tx (upW R)), .tuple [.str (tx R)], .str (tx (R ++ [49])), .str (tx (T ++ [97]))]
section
variable {a0 a1 a2 a3 a4 a5 a6 a7 a8 a9 a10 a11 a13 : Option D} {h : Hd}
def lawE : DS → M D := dAnd (dIsi "str" (eVar 12)) (dAnd (dBin neP (eVar 12) (eC (.t (.str (Str.ofString ""))))) (dAnd (dM "str" islowP (eVar 12) aNil) (dAnd (dM "str" alphaP (eVar 12) aNil) (dBin eqP (dCW minQ (aCons (dCall F__law_turns (aCons (eVar 12) aNil)) aNil)) (eVar 12)))))
theorem lawE_az {V : List Nat} (hV : ∀ c ∈ V, c ∈ AZ) (h0 : V ≠ []) (hl : V.length ≤ 4000) : lawE [a0, a1, a2, a3, a4, a5, a6, a7, a8, a9, a10, a11, some (.t (.str (tx V))), a13] h = some (.ok (.t (.bool (isRing (.str (tx V))))) h) := by
  have h1 : 0 < V.length := List.length_pos_iff.mpr h0
  obtain ⟨m, f⟩ := LT.fst_ex V h1
  have mt := min_turns (fun c hc => az_lt c (hV c hc)) f
  have lt := e_law_turns hl h
  have ri := ringB_iff f
  rw [isRing_az hV h0 (by omega)]
  have q0 : ¬ tx V = tx [] := by rw [tx_inj]; exact h0
  have el := low_tx hV h0
  have ea := alpha_tx hV h0
  generalize turnL V = L at *
  have xe : tx (LT.rot V m) = tx V ↔ ringB V = true := by rw [tx_inj]; exact ri.symm
  unfold lawE
  generalize tx (LT.rot V m) = X at *
  generalize F__law_turns = FF at *
  cases hb : ringB V with
  | true =>
    have := xe.mpr hb
    simp -implicitDefEqProofs [emp, q0, islowP, alphaP, m0P, anyS, tykP, el, ea, lt, mt, this, h0]
  | false =>
    have : ¬ X = tx V := fun e => by rw [xe.mp e] at hb; cases hb
    simp -implicitDefEqProofs [emp, q0, islowP, alphaP, m0P, anyS, tykP, el, ea, lt, mt, this, h0]
theorem lawE_ok {R T : List Nat} (hR : ∀ c ∈ R, c ∈ AZ) (hT : ∀ c ∈ T, c ∈ AZ) (h0 : R ≠ []) (hl : T.length ≤ 400) (d : PyData) (hd : d ∈ some2 R T) : lawE [a0, a1, a2, a3, a4, a5, a6, a7, a8, a9, a10, a11, some (.t d), a13] h = some (.ok (.t (.bool (isRing d))) h) := by
  simp only [some2, List.mem_cons, List.not_mem_nil, or_false] at hd
  rcases hd with rfl | rfl | rfl | rfl | rfl | rfl | rfl
  · simp -implicitDefEqProofs [lawE, isRing]
  · simp -implicitDefEqProofs [lawE, isRing]
  · have : isRing (.str (tx [])) = false := by decide +kernel
    rw [this]
    simp -implicitDefEqProofs [lawE, emp]
  · have q0 : ¬ tx (upW R) = tx [] := by rw [tx_inj]; unfold upW; simpa using h0
    obtain ⟨c, hc⟩ := List.exists_mem_of_ne_nil R h0
    have : isRing (.str (tx (upW R))) = false := noRing (c - 32) (List.mem_map.mpr ⟨c, hc, rfl⟩) (az_upn c (hR c hc)).2
    rw [this]
    have el := upn_tx hR
    unfold lawE
    generalize tx (upW R) = X at *
    generalize F__law_turns = FF at *
    simp -implicitDefEqProofs [emp, q0, islowP, m0P, anyS, tykP, el]
  · simp -implicitDefEqProofs [lawE, isRing]
  · have q0 : ¬ tx (R ++ [49]) = tx [] := by rw [tx_inj]; simp
    have : isRing (.str (tx (R ++ [49]))) = false := noRing 49 (by simp) (by decide)
    rw [this]
    have ea := alpha_no (w := R ++ [49]) 49 (by simp) (by decide +kernel)
    unfold lawE
    generalize tx (R ++ [49]) = X at *
    generalize F__law_turns = FF at *
    cases el : Txt.islower X <;> simp -implicitDefEqProofs [emp, q0, islowP, alphaP, m0P, anyS, tykP, el, ea]
  · refine lawE_az ?_ (by simp) (by simp; omega)
    intro c hc
    rcases List.mem_append.mp hc with q | q
    · exact hT c q
    · rw [List.mem_singleton] at q; subst q; decide
theorem some_len {R T : List Nat} (hR : R.length ≤ 400) (hT : T.length ≤ 400) (d : PyData) (hd : d ∈ some2 R T) : ∀ x, d = .str x → x.length ≤ 16777216 := by
  intro x e
  subst e
  simp only [some2, List.mem_cons, List.not_mem_nil, or_false] at hd
  rcases hd with q | q | q | q | q | q | q <;> cases q <;> rw [tx_len] <;> simp [upW] <;> omega
end
/-! long ones -/
theorem cc_ab {n x : Nat} : LT.cc (List.replicate n 97 ++ [98]) x = if x % (n + 1) < n then 97 else 98 := by
  unfold LT.cc
  have hl : (List.replicate n 97 ++ [98]).length = n + 1 := by simp
  rw [hl, List.getD_eq_getElem?_getD]
  have hm := Nat.mod_lt x (show 0 < n + 1 by omega)
  by_cases q : x % (n + 1) < n
  · rw [if_pos q, List.getElem?_append_left (by simpa using q)]
    simp [q]
  · have e : x % (n + 1) = n := by omega
    rw [if_neg q, e, List.getElem?_append_right (by simp)]
    simp
theorem fst_ab (n : Nat) : LT.Fst (List.replicate n 97 ++ [98]) 0 := by
  have hl : (List.replicate n 97 ++ [98]).length = n + 1 := by simp
  have key : ∀ x, 0 < x → x < n + 1 → LT.rot (List.replicate n 97 ++ [98]) 0 < LT.rot (List.replicate n 97 ++ [98]) x := by
    intro x h0 hx
    refine LT.rot_lt (k := n - x) (by rw [hl]; omega) (fun t ht => ?_) ?_
    · rw [cc_ab, cc_ab, Nat.mod_eq_of_lt (show 0 + t < n + 1 by omega), Nat.mod_eq_of_lt (show x + t < n + 1 by omega), if_pos (by omega), if_pos (by omega)]
    · rw [cc_ab, cc_ab, Nat.mod_eq_of_lt (show 0 + (n - x) < n + 1 by omega), Nat.mod_eq_of_lt (show x + (n - x) < n + 1 by omega), if_pos (by omega), if_neg (by omega)]
      decide
  refine ⟨by rw [hl]; omega, fun x hx => ?_, fun x hx => absurd hx (Nat.not_lt_zero _)⟩
  rw [hl] at hx
  by_cases q : x = 0
  · rw [q]; exact List.lt_irrefl _
  · exact fun e => List.lt_irrefl _ (List.lt_trans e (key x (by omega) hx))
theorem ab_az (n : Nat) : ∀ c ∈ List.replicate n 97 ++ [98], c ∈ AZ := by
  intro c hc
  rcases List.mem_append.mp hc with q | q
  · rw [List.eq_of_mem_replicate q]; decide
  · rw [List.mem_singleton] at q; subst q; decide
theorem ring_ab (n : Nat) : isRing (.str (tx (List.replicate n 97 ++ [98]))) = decide (n + 1 ≤ 40000) := by
  have hl : (List.replicate n 97 ++ [98]).length = n + 1 := by simp
  by_cases q : n + 1 ≤ 40000
  · rw [isRing_az (ab_az n) (by simp) (by rw [hl]; exact q), decide_eq_true q, ringB_iff (fst_ab n), rot_zero]
  · have : isRing (.str (tx (List.replicate n 97 ++ [98]))) = false := by
      have e : decide ((tx (List.replicate n 97 ++ [98])).length ≤ 40000) = false := by rw [tx_len, hl]; exact decide_eq_false q
      simp only [isRing, e, Bool.false_and, Bool.and_false]
    rw [this, decide_eq_false q]
theorem ba_rot (n : Nat) : 98 :: List.replicate n 97 = LT.rot (List.replicate n 97 ++ [98]) n := by
  rw [LT.rot_eq (by simp)]
  simp
theorem fst_ba {n : Nat} (h0 : 0 < n) : LT.Fst (98 :: List.replicate n 97) 1 := by
  have hl : (98 :: List.replicate n 97).length = n + 1 := by simp
  have hr : LT.rot (98 :: List.replicate n 97) 1 = List.replicate n 97 ++ [98] := by
    rw [LT.rot_eq (by rw [hl]; omega)]
    simp
  refine ⟨by rw [hl]; omega, fun x hx e => ?_, fun x hx e => ?_⟩
  · rw [hr] at e
    rw [ba_rot, LT.rot_rot] at e
    have := LT.least_all (fst_ab n) (n + x)
    rw [rot_zero] at this
    exact this e
  · have : x = 0 := by omega
    subst this
    rw [rot_zero, hr] at e
    cases n with
    | zero => omega
    | succ n => rw [List.replicate_succ] at e; simp at e
theorem rot_ba {n : Nat} (h0 : 0 < n) : LT.rot (98 :: List.replicate n 97) 1 = List.replicate n 97 ++ [98] := by
  rw [LT.rot_eq (by simp)]
  simp
theorem ring_ba {n : Nat} (h0 : 0 < n) (h1 : n + 1 ≤ 40000) : isRing (.str (tx (98 :: List.replicate n 97))) = false := by
  have haz : ∀ c ∈ 98 :: List.replicate n 97, c ∈ AZ := by
    rw [ba_rot]
    exact rot_az (ab_az n) n
  rw [isRing_az haz (by simp) (by simp; omega)]
  cases e : ringB (98 :: List.replicate n 97) with
  | false => rfl
  | true =>
    have := (ringB_iff (fst_ba h0)).mp e
    rw [rot_ba h0] at this
    cases n with
    | zero => omega
    | succ n => rw [List.replicate_succ] at this; simp at this
@[simp] theorem x_len_t {ds : List PyData} : lenP [.tuple ds] = some (.int ds.length) := rfl
theorem if_or {S : DS} {h : Hd} {A B : DS → M Bool} {X : SM} (a : A S h = some (.ok false h)) (b : B S h = some (.ok false h)) : sIf (tOrD A B) X sNext S h = some (.nx, S, h) := by
  simp -implicitDefEqProofs [a, b]
theorem if_no {S : DS} {h : Hd} {A : DS → M Bool} {X : SM} (a : A S h = some (.ok false h)) : sIf A X sNext S h = some (.nx, S, h) := by
  simp -implicitDefEqProofs [a]
theorem or_at {S : DS} {h : Hd} {A B : DS → M Bool} (a : A S h = some (.ok false h)) (b : B S h = some (.ok false h)) : tOrD A B S h = some (.ok false h) := by
  simp -implicitDefEqProofs [a, b]
theorem and_at {S : DS} {h : Hd} {A B : DS → M Bool} {c : Bool} (a : A S h = some (.ok c h)) (b : c = true → B S h = some (.ok false h)) : tAndD A B S h = some (.ok false h) := by
  cases c with
  | true => simp -implicitDefEqProofs [a, b rfl]
  | false => simp -implicitDefEqProofs [a]
theorem test_at {S : DS} {h : Hd} {A : DS → M D} {b : Bool} (a : A S h = some (.ok (.t (.bool b)) h)) : dTest A S h = some (.ok b h) := by
  simp -implicitDefEqProofs [a]
theorem ne_same (a : Str) : neP (.str a) (.str a) = some (.bool false) := by simp
theorem ne_selfS {d : PyData} (h : SeqAt.shaped d = true) : neP d d = some (.bool false) := by
  have h2 := SeqAt.eqv_refl d (SeqAt.canLay_of_shaped h)
  cases d <;> simp [neP, h, h2]
theorem eq_selfS {d : PyData} (h : SeqAt.shaped d = true) : eqP d d = some (.bool true) := by
  have h2 := SeqAt.eqv_refl d (SeqAt.canLay_of_shaped h)
  cases d <;> simp [eqP, h, h2]
theorem repr_at {S : DS} {h : Hd} {A : DS → M (List D)} {d : PyData} (a : A S h = some (.ok [.t d] h)) (ok : okR d = true) : dCB reprP A S h = some (.ok (.t (.str d.shown)) h) := by
  simp -implicitDefEqProofs [a, ok]
theorem set_at1 {S : DS} {h h' : Hd} {i : Nat} {m : DS → M D} {d : D} (e : m S h = some (.ok d h')) : sSet i m S h = some (.nx, S.set i (some d), h') := by
  rw [x_sSet, sB_ok e]
theorem one_at {S : DS} {h h' : Hd} {m : DS → M D} {d : D} (e : m S h = some (.ok d h')) : aCons m aNil S h = some (.ok [d] h') := by
  simp -implicitDefEqProofs [e]
theorem tup_at {S : DS} {h : Hd} {m : DS → M D} {ds : List PyData} (e : m S h = some (.ok (.t (.list ds)) h)) : dCW tupP (aCons m aNil) S h = some (.ok (.t (.tuple ds)) h) := by
  simp -implicitDefEqProofs [e]
theorem cut_toL (xs : List PyData) (b : Nat) : cutP xs none (some (b : Int)) = xs.take b := by
  unfold cutP
  rw [HT.sIx_nat, HT.sIx_none]
  by_cases hb : b ≤ xs.length
  · rw [Nat.min_eq_left hb]; simp
  · rw [Nat.min_eq_right (by omega)]; simp [List.take_of_length_le, show xs.length ≤ b by omega]
theorem call_at {S : DS} {h h' : Hd} {F : List D → M D} {ms : DS → M (List D)} {ds : List D} {r : Option (Res D)} (e : ms S h = some (.ok ds h')) (f : F ds h' = r) : dCall F ms S h = r := by
  rw [x_dCall, bd_ok e, f]
theorem lcE_if {f : PyData → DS → Option DS} {t : DS → M Bool} {e : DS → M D} {own : List Nat} {S S1 : DS} {x z : PyData} {h : Hd} {c : Bool} (hg : f x (wipeD S own) = some S1) (ht : t S1 h = some (.ok c h)) (he : c = true → e S1 h = some (.ok (.t z) h)) : lcE f t e own S x h = some (.ok (if c = true then some z else none) h) := by
  cases c with
  | true => simp -implicitDefEqProofs [hg, ht, he rfl]
  | false => simp -implicitDefEqProofs [hg, ht]
section
variable {n k l m b r : Nat} {h : Hd} {x : Cell} {w p : List Nat}
end
theorem cells_ok (ns : List Int) (h : Hd) : ∃ m : Nat, m ≤ 3 ∧ F__law_cells [.s ns, .t (.int 3)] h = some (.ok (.t (.list (rngD 0 m))) h) := by
  obtain ⟨q, e, hq⟩ : ∃ q : Nat, (if (if (ns.length : Int) < 3 then (ns.length : Int) else 3) > 1 then (if (ns.length : Int) < 3 then (ns.length : Int) else 3) else 1) = (q : Int) ∧ q ≤ 3 := by
    refine ⟨(if (if (ns.length : Int) < 3 then (ns.length : Int) else 3) > 1 then (if (ns.length : Int) < 3 then (ns.length : Int) else 3) else 1).toNat, ?_, ?_⟩ <;> split <;> split <;> omega
  refine ⟨q, hq, ?_⟩
  have r : rgOk 0 (q : Int) = true := by
    unfold rgOk DL.inR
    simp
    omega
  have c1 : maxQ [.int 1, .int (if (ns.length : Int) < 3 then (ns.length : Int) else 3)] = some (.int (q : Int)) := by
    rw [← e]; rfl
  have c2 : minQ [.int 3, .int (ns.length : Nat)] = some (.int (if (ns.length : Int) < 3 then (ns.length : Int) else 3)) := rfl
  generalize (if (ns.length : Int) < 3 then (ns.length : Int) else 3) = mm at c1 c2
  simp -implicitDefEqProofs [F__law_cells, g__law_cells, dRg1, c1, c2, r]
theorem trues {ys : List PyData} (h : ∀ y ∈ ys, y = .bool true) : allP [.list ys] = some (.bool true) := by
  have e : ys = (ys.map fun _ => true).map fun b => PyData.bool b := by
    rw [List.map_map]
    induction ys with
    | nil => rfl
    | cons y ys ih =>
      rw [List.map_cons, ← ih fun z hz => h z (by simp [hz]), h y (by simp)]
      rfl
  rw [e, all_map]
  simp
section
variable {h : Hd} {ns : List Int} {M : Nat}
end
end Lw
set_option Elab.async false
set_option linter.all false
set_option maxRecDepth 100000
set_option maxHeartbeats 2000000
namespace Lw
open PySem PySem.Spec L2 DL
open PyProof.Rows hiding St
theorem le_one (a b : Nat) : leP (.str (tx [a])) (.str (tx [b])) = some (.bool (decide (a ≤ b))) := by
  show some (PyData.bool (!decide ([b] < [a]))) = _
  have : decide ([b] < [a]) = decide (b < a) := by
    rw [decide_eq_decide]
    constructor
    · intro h
      cases h with
      | rel h => exact h
      | cons h => cases h
    · intro h; exact List.Lex.rel h
  rw [this]
  by_cases q : a ≤ b
  · rw [decide_eq_true q, decide_eq_false (by omega)]; rfl
  · rw [decide_eq_false q, decide_eq_true (by omega)]; rfl
theorem lt_one (a b : Nat) : ltP (.str (tx [a])) (.str (tx [b])) = some (.bool (decide (a < b))) := by
  show some (PyData.bool (decide ([a] < [b]))) = _
  have : decide ([a] < [b]) = decide (a < b) := by
    rw [decide_eq_decide]
    constructor
    · intro h
      cases h with
      | rel h => exact h
      | cons h => cases h
    · intro h; exact List.Lex.rel h
  rw [this]
def txs (L : List (List Nat)) : List PyData := L.map fun u => .str (tx u)
theorem ix_ch {w : List Nat} {i : Nat} (h : i < w.length) (hl : w.length ≤ 4000) : ixP (.str (tx w)) (.int (i : Nat)) = some (.str (tx [ch w i])) := by
  have : w.length ≤ 16777216 := by omega
  simp -implicitDefEqProofs [tx_len, this, at_ch h]
def faT1 : DS → M Bool := (tAndD (dTest (dBin ltP (eVar 3) (dCW lenP (aCons (eVar 0) aNil)))) (dTest (dBin leP (dIx ixP (eVar 0) (eVar 4)) (dIx ixP (eVar 0) (eVar 3)))))
def faB1 : SM := (sSeq (sSet 4 (dIf (dTest (dBin ltP (dIx ixP (eVar 0) (eVar 4)) (dIx ixP (eVar 0) (eVar 3)))) (eVar 2) (dBin addP (eVar 4) (eC (.t (.int 1)))))) (sSet 3 (dBin addP (eVar 3) (eC (.t (.int 1))))))
def faT2 : DS → M Bool := (dTest (dBin leP (eVar 2) (eVar 4)))
def faB2 : SM := (sSeq (sDrop (dApp (eVar 1) (dSl false (eVar 0) (oSome (eVar 2)) (oSome (dBin addP (eVar 2) (eVar 5)))))) (sSet 2 (dBin addP (eVar 2) (eVar 5))))
def faB0 : SM := (sSeq (sPar 3 4 (aCons (dBin addP (eVar 2) (eC (.t (.int 1)))) (aCons (eVar 2) aNil))) (sSeq (sWhile fu faT1 faB1) (sSeq (sSet 5 (dBin subP (eVar 3) (eVar 4))) (sWhile fu faT2 faB2))))
section
variable {w : List Nat} {b n j k : Nat} {o5 : Option D} {h : Hd}
theorem fa_t1 (hw : w.length ≤ 4000) (hk : k < j) : faT1 [some (.t (.str (tx w))), some (.c n), some (.t (.int (b : Nat))), some (.t (.int (j : Nat))), some (.t (.int (k : Nat))), o5] h = some (.ok (decide (j < w.length) && decide (ch w k ≤ ch w j)) h) := by
  have hw' : w.length ≤ 16777216 := by omega
  unfold faT1
  by_cases q : j < w.length
  · have e1 := ix_ch q hw
    have e2 := ix_ch (w := w) (i := k) (by omega) hw
    have e3 := le_one (ch w k) (ch w j)
    have e4 : dBin leP (dIx ixP (eVar 0) (eVar 4)) (dIx ixP (eVar 0) (eVar 3)) [some (.t (.str (tx w))), some (.c n), some (.t (.int (b : Nat))), some (.t (.int (j : Nat))), some (.t (.int (k : Nat))), o5] h = some (.ok (.t (.bool (decide (ch w k ≤ ch w j)))) h) := by
      refine bin_at (h1 := h) (a := .str (tx [ch w k])) (b := .str (tx [ch w j])) ?_ ?_ e3
      · simp -implicitDefEqProofs [e2, -x_ix_s]
      · simp -implicitDefEqProofs [e1, -x_ix_s]
    generalize dBin leP _ _ = LL at *
    simp -implicitDefEqProofs [tx_len, hw', q, e4]
  · simp -implicitDefEqProofs [tx_len, hw', q]
theorem fa_b1 (hw : w.length ≤ 4000) (hk : k < j) (hj : j < w.length) : faB1 [some (.t (.str (tx w))), some (.c n), some (.t (.int (b : Nat))), some (.t (.int (j : Nat))), some (.t (.int (k : Nat))), o5] h = some (.nx, [some (.t (.str (tx w))), some (.c n), some (.t (.int (b : Nat))), some (.t (.int ((j + 1 : Nat) : Int))), some (.t (.int ((if ch w k < ch w j then b else k + 1 : Nat) : Int))), o5], h) := by
  have e1 := ix_ch hj hw
  have e2 := ix_ch (w := w) (i := k) (by omega) hw
  have e3 := lt_one (ch w k) (ch w j)
  have e4 : dBin ltP (dIx ixP (eVar 0) (eVar 4)) (dIx ixP (eVar 0) (eVar 3)) [some (.t (.str (tx w))), some (.c n), some (.t (.int (b : Nat))), some (.t (.int (j : Nat))), some (.t (.int (k : Nat))), o5] h = some (.ok (.t (.bool (decide (ch w k < ch w j)))) h) := by
    refine bin_at (h1 := h) (a := .str (tx [ch w k])) (b := .str (tx [ch w j])) ?_ ?_ e3
    · simp -implicitDefEqProofs [e2, -x_ix_s]
    · simp -implicitDefEqProofs [e1, -x_ix_s]
  unfold faB1
  generalize dBin ltP _ _ = LL at *
  by_cases q : ch w k < ch w j
  · simp -implicitDefEqProofs [e4, q]
  · simp -implicitDefEqProofs [e4, q]
theorem fa_in (hw : w.length ≤ 4000) (hb : b < w.length) : ∃ j k, sWhile fu faT1 faB1 [some (.t (.str (tx w))), some (.c n), some (.t (.int (b : Nat))), some (.t (.int ((b + 1 : Nat) : Int))), some (.t (.int (b : Nat))), o5] h = some (.nx, [some (.t (.str (tx w))), some (.c n), some (.t (.int (b : Nat))), some (.t (.int (j : Nat))), some (.t (.int (k : Nat))), o5], h) ∧ LY.Du w b j k ∧ (j = w.length ∨ w.getD j 0 < w.getD k 0) := by
  obtain ⟨⟨j, k⟩, e1, i1, e3⟩ := whileN_run (t := faT1) (b := faB1) (fun s : Nat × Nat => [some (.t (.str (tx w))), some (.c n), some (.t (.int (b : Nat))), some (.t (.int (s.1 : Nat))), some (.t (.int (s.2 : Nat))), o5]) (fun _ => h) (fun s => LY.Du w b s.1 s.2) (fun s => decide (s.1 < w.length) && decide (ch w s.2 ≤ ch w s.1)) (fun s => w.length - s.1)
    (fun s hs => fa_t1 hw hs.h2)
    (fun s hs hc => by
      obtain ⟨j, k⟩ := s
      simp at hc
      refine ⟨(j + 1, if ch w k < ch w j then b else k + 1), fa_b1 hw hs.h2 hc.1, ?_, by simp; omega⟩
      by_cases q : ch w k < ch w j
      · simp only [q, if_true]
        exact LY.du_lt hs hc.1 q
      · simp only [q, if_false]
        exact LY.du_eq hs hc.1 (by show ch w k = ch w j; omega)) fu (b + 1, b) (LY.du_start hb) (by rw [fu_eq]; simp; omega)
  refine ⟨j, k, e1, i1, ?_⟩
  simp at e3
  have := i1.h3
  by_cases q : j < w.length
  · exact Or.inr (e3 q)
  · exact Or.inl (by omega)
theorem txs_snoc (L : List (List Nat)) (u : List Nat) : txs L ++ [.str (tx u)] = txs (L ++ [u]) := by simp [txs]
theorem fa_out {L : List (List Nat)} (hw : w.length ≤ 4000) (d : LY.Du w b j k) (hL : L.length ≤ b) : ∃ t, sWhile fu faT2 faB2 [some (.t (.str (tx w))), some (.c h.length), some (.t (.int (b : Nat))), some (.t (.int (j : Nat))), some (.t (.int (k : Nat))), some (.t (.int ((j - k : Nat) : Int)))] (h ++ [.lst (txs L)]) = some (.nx, [some (.t (.str (tx w))), some (.c h.length), some (.t (.int ((b + t * (j - k) : Nat) : Int))), some (.t (.int (j : Nat))), some (.t (.int (k : Nat))), some (.t (.int ((j - k : Nat) : Int)))], h ++ [.lst (txs (L ++ List.replicate t ((w.drop b).take (j - k))))]) ∧ t * (j - k) ≤ j - b ∧ j - b < t * (j - k) + (j - k) := by
  have hw' : w.length ≤ 16777216 := by omega
  have d1 := d.h1
  have d2 := d.h2
  have d3 := d.h3
  obtain ⟨t, e1, i1, e3⟩ := whileN_run (t := faT2) (b := faB2) (fun t : Nat => [some (.t (.str (tx w))), some (.c h.length), some (.t (.int ((b + t * (j - k) : Nat) : Int))), some (.t (.int (j : Nat))), some (.t (.int (k : Nat))), some (.t (.int ((j - k : Nat) : Int)))]) (fun t => h ++ [.lst (txs (L ++ List.replicate t ((w.drop b).take (j - k))))]) (fun t => t * (j - k) ≤ j - b) (fun t => decide (t * (j - k) + (j - k) ≤ j - b)) (fun t => j - b - t * (j - k))
    (fun t ht => by
      unfold faT2
      obtain ⟨B, hB⟩ : ∃ B, B = b + t * (j - k) := ⟨_, rfl⟩
      have e : decide ((B : Int) ≤ (k : Int)) = decide (t * (j - k) + (j - k) ≤ j - b) := by
        rw [decide_eq_decide, hB]
        constructor <;> intro q <;> omega
      rw [← hB, ← e]
      simp -implicitDefEqProofs)
    (fun t ht hc => by
      have hc := of_decide_eq_true hc
      have cut := LY.du_cut d hc
      have tl : t ≤ t * (j - k) := Nat.le_mul_of_pos_right t (by omega)
      have sm : (t + 1) * (j - k) = t * (j - k) + (j - k) := Nat.succ_mul t (j - k)
      refine ⟨t + 1, ?_, by omega, by omega⟩
      obtain ⟨B, hB⟩ : ∃ B, B = b + t * (j - k) := ⟨_, rfl⟩
      generalize hP : j - k = P at *
      have hB2 : b + (t + 1) * P = B + P := by omega
      have sn : txs (L ++ List.replicate (t + 1) ((w.drop b).take P)) = txs (L ++ List.replicate t ((w.drop b).take P)) ++ [.str (tx ((w.drop b).take P))] := by
        rw [List.replicate_succ', ← List.append_assoc, ← txs_snoc]
      have fewer : (txs (L ++ List.replicate t ((w.drop b).take P))).length < 16777216 := by simp [txs]; omega
      rw [sn, hB2, ← hB]
      have ct : cutP w (some (B : Int)) (some ((B + P : Nat) : Int)) = (w.drop b).take P := by
        rw [cut_ab, Nat.add_sub_cancel_left, hB, cut]
      have e5 : (B : Int) + (P : Int) = ((B + P : Nat) : Int) := by omega
      generalize txs (L ++ List.replicate t ((w.drop b).take P)) = LL at *
      generalize (w.drop b).take P = U at *
      have sl : ∀ hh, dSl false (eVar 0) (oSome (eVar 2)) (oSome (dBin addP (eVar 2) (eVar 5))) [some (.t (.str (tx w))), some (.c h.length), some (.t (.int (B : Nat))), some (.t (.int (j : Nat))), some (.t (.int (k : Nat))), some (.t (.int (P : Nat)))] hh = some (.ok (.t (.str (tx U))) hh) := fun hh => by
        have := sl_ab (S := [some (.t (.str (tx w))), some (.c h.length), some (.t (.int (B : Nat))), some (.t (.int (j : Nat))), some (.t (.int (k : Nat))), some (.t (.int (P : Nat)))]) (h := hh) (ma := eVar 0) (ml := oSome (eVar 2)) (mh := oSome (dBin addP (eVar 2) (eVar 5))) (F := w) (lo := some (B : Int)) (hi := some ((B + P : Nat) : Int)) rfl rfl (by simp -implicitDefEqProofs) hw'
        rw [ct] at this
        exact this
      unfold faB2
      generalize dSl false _ _ _ = SS at *
      simp -implicitDefEqProofs [sl, fewer]) fu 0 (by simp) (by rw [fu_eq]; omega)
  have i2 : t * (j - k) ≤ j - b := i1
  refine ⟨t, ?_, i2, by simpa using e3⟩
  simp only [Nat.zero_mul, Nat.add_zero, List.replicate_zero, List.append_nil] at e1
  exact e1
theorem fi_few {L : List (List Nat)} (f : LY.Fi w b L) : L.length ≤ b := by
  have key : ∀ M : List (List Nat), (∀ u ∈ M, LY.Ld u) → M.length ≤ M.flatten.length := by
    intro M
    induction M with
    | nil => simp
    | cons m M ih =>
      intro hm
      have h1 := (hm m (by simp)).1
      have := ih fun u hu => hm u (by simp [hu])
      rw [List.flatten_cons, List.length_append, List.length_cons]
      omega
  have := key L f.all
  rw [f.flat, List.length_take] at this
  omega
theorem e_factors_of (hw : w.length ≤ 4000) : ∃ L, F_factors_of [.t (.str (tx w))] h = some (.ok (.t (.list (txs L))) h) ∧ LY.NF L w := by
  have hw' : w.length ≤ 16777216 := by omega
  obtain ⟨⟨b, L, o3, o4, o5⟩, e1, i1, e3⟩ := whileN_run (t := (dTest (dBin ltP (eVar 2) (dCW lenP (aCons (eVar 0) aNil))))) (b := faB0) (fun s : Nat × List (List Nat) × Option D × Option D × Option D => [some (.t (.str (tx w))), some (.c h.length), some (.t (.int (s.1 : Nat))), s.2.2.1, s.2.2.2.1, s.2.2.2.2]) (fun s => h ++ [.lst (txs s.2.1)]) (fun s => LY.Fi w s.1 s.2.1) (fun s => decide (s.1 < w.length)) (fun s => w.length - s.1)
    (fun s hs => by
      simp -implicitDefEqProofs [tx_len, hw'])
    (fun s hs hc => by
      obtain ⟨b, L, o3, o4, o5⟩ := s
      have hb := of_decide_eq_true hc
      obtain ⟨j, k, e1, d, hx⟩ := @fa_in w b h.length o5 (h ++ [.lst (txs L)]) hw hb
      obtain ⟨t, e2, t1, t2⟩ := @fa_out w b j k h L hw d (fi_few hs)
      have d1 := d.h1
      have d2 := d.h2
      refine ⟨(b + t * (j - k), L ++ List.replicate t ((w.drop b).take (j - k)), some (.t (.int (j : Nat))), some (.t (.int (k : Nat))), some (.t (.int ((j - k : Nat) : Int)))), ?_, LY.fi_step hs d hx t1 t2, by
        show w.length - (b + t * (j - k)) < w.length - b
        have hb : b < w.length := hb
        omega⟩
      have e4 : (j : Int) - (k : Int) = ((j - k : Nat) : Int) := by omega
      unfold faB0
      have s1 : (sPar 3 4 (aCons (dBin addP (eVar 2) (eC (.t (.int 1)))) (aCons (eVar 2) aNil))) [some (.t (.str (tx w))), some (.c h.length), some (.t (.int (b : Nat))), o3, o4, o5] (h ++ [.lst (txs L)]) = some (.nx, [some (.t (.str (tx w))), some (.c h.length), some (.t (.int (b : Nat))), some (.t (.int ((b + 1 : Nat) : Int))), some (.t (.int (b : Nat))), o5], h ++ [.lst (txs L)]) := by
        simp -implicitDefEqProofs
      have s3 : (sSet 5 (dBin subP (eVar 3) (eVar 4))) [some (.t (.str (tx w))), some (.c h.length), some (.t (.int (b : Nat))), some (.t (.int (j : Nat))), some (.t (.int (k : Nat))), o5] (h ++ [.lst (txs L)]) = some (.nx, [some (.t (.str (tx w))), some (.c h.length), some (.t (.int (b : Nat))), some (.t (.int (j : Nat))), some (.t (.int (k : Nat))), some (.t (.int ((j - k : Nat) : Int)))], h ++ [.lst (txs L)]) := by
        simp -implicitDefEqProofs [e4]
      show sSeq _ _ [some (.t (.str (tx w))), some (.c h.length), some (.t (.int (b : Nat))), o3, o4, o5] (h ++ [.lst (txs L)]) = _
      rw [sSeq_nx s1, sSeq_nx e1, sSeq_nx s3, e2]) fu (0, [], none, none, none) (LY.fi_zero w) (by rw [fu_eq]; simp; omega)
  have hb : b = w.length := by
    have := i1.le
    simp at e3
    have h2 : b ≤ w.length := this
    omega
  have i2 : LY.Fi w b L := i1
  rw [hb] at i2
  refine ⟨L, ?_, LY.fi_end i2⟩
  have e1' : sWhile fu (dTest (dBin ltP (eVar 2) (dCW lenP (aCons (eVar 0) aNil)))) faB0 [some (.t (.str (tx w))), some (.c h.length), some (.t (.int 0)), none, none, none] (h ++ [.lst []]) = some (.nx, [some (.t (.str (tx w))), some (.c h.length), some (.t (.int (b : Nat))), o3, o4, o5], h ++ [.lst (txs L)]) := e1
  have e : g_factors_of [some (.t (.str (tx w))), none, none, none, none, none] h = some (.rt (.c h.length), [some (.t (.str (tx w))), some (.c h.length), some (.t (.int (b : Nat))), o3, o4, o5], h ++ [.lst (txs L)]) := by
    show sSeq (sPar 1 2 (aCons (dLst true aNil) (aCons (eC (.t (.int 0))) aNil))) (sSeq (sWhile fu (dTest (dBin ltP (eVar 2) (dCW lenP (aCons (eVar 0) aNil)))) faB0) (sRet (eVar 1))) _ _ = _
    have s1 : (sPar 1 2 (aCons (dLst true aNil) (aCons (eC (.t (.int 0))) aNil))) [some (.t (.str (tx w))), none, none, none, none, none] h = some (.nx, [some (.t (.str (tx w))), some (.c h.length), some (.t (.int 0)), none, none, none], h ++ [.lst []]) := by
      simp -implicitDefEqProofs
    rw [sSeq_nx s1, sSeq_nx e1']
    simp -implicitDefEqProofs
  simp -implicitDefEqProofs [F_factors_of, e]
end
end Lw
set_option Elab.async false
set_option linter.all false
set_option maxRecDepth 100000
set_option maxHeartbeats 2000000
namespace Lw
open PySem PySem.Spec L2 DL
open PyProof.Rows hiding St
/-- leads, by all turns -/
def ldB (w : List Nat) : Bool := !w.isEmpty && (List.range (w.length - 1)).all fun i => decide (w < LT.rot w (1 + i))
theorem ldB_iff {w : List Nat} : ldB w = true ↔ LY.Ld w := by
  unfold ldB
  rw [Bool.and_eq_true, List.all_eq_true]
  constructor
  · rintro ⟨h1, h2⟩
    have h0 : 0 < w.length := by
      cases w with
      | nil => simp at h1
      | cons _ _ => simp
    refine LY.rot_ld h0 fun x x0 xl => ?_
    have := h2 (x - 1) (List.mem_range.mpr (by omega))
    rw [show 1 + (x - 1) = x by omega] at this
    rw [rot_zero]
    exact of_decide_eq_true this
  · intro h
    refine ⟨?_, fun i hi => ?_⟩
    · cases w with
      | nil => exact absurd h.1 (by simp)
      | cons _ _ => rfl
    · have hi := List.mem_range.mp hi
      have := LY.ld_rot h (1 + i) (by omega) (by omega)
      rw [rot_zero] at this
      exact decide_eq_true this
theorem cut_fromL (xs : List PyData) (a : Nat) : cutP xs (some (a : Int)) none = xs.drop a := by
  unfold cutP
  rw [HT.sIx_nat, HT.sIx_none]
  by_cases ha : a ≤ xs.length
  · rw [Nat.min_eq_left ha]
    exact List.take_of_length_le (by simp)
  · rw [Nat.min_eq_right (by omega), List.drop_of_length_le (Nat.le_refl _), List.drop_of_length_le (by omega)]
    simp
theorem e_law_leads {w : List Nat} (hw : w.length ≤ 400) (h : Hd) : F__law_leads [.t (.str (tx w))] h = some (.ok (.t (.bool (ldB w))) h) := by
  by_cases h0 : w = []
  · subst h0
    have : ldB [] = false := rfl
    rw [this]
    unfold F__law_leads g__law_leads
    generalize F__law_turns = FT at *
    simp -implicitDefEqProofs [emp]
  · have hl : 0 < w.length := List.length_pos_iff.mpr h0
    have q0 : ¬ tx w = tx [] := by rw [tx_inj]; exact h0
    have lt := e_law_turns (show w.length ≤ 4000 by omega) h
    have tl : (turnL w).drop 1 = (List.range (w.length - 1)).map fun i => .str (tx (LT.rot w (1 + i))) := by
      obtain ⟨n, hn⟩ : ∃ n, w.length = n + 1 := ⟨w.length - 1, by omega⟩
      unfold turnL
      rw [hn, List.range_succ_eq_map, List.map_cons, List.drop_succ_cons, List.drop_zero, List.map_map, Nat.add_sub_cancel]
      apply List.map_congr_left
      intro i _
      show PyData.str (tx (LT.rot w (Nat.succ i))) = _
      rw [Nat.succ_eq_one_add]
    have lc : dLc false (iAny (dSl false (dCall F__law_turns (aCons (eVar 0) aNil)) (oSome (eC (.t (.int 1)))) oNone)) (gN 1) tYesD (dBin ltP (eVar 0) (eVar 1)) [1] [some (.t (.str (tx w))), none] h = some (.ok (.t (.list ((List.range (w.length - 1)).map fun i => .bool (decide (w < LT.rot w (1 + i)))))) h) := by
      refine (lc_pure (xs := List.range (w.length - 1)) (enc := fun i => .str (tx (LT.rot w (1 + i)))) (fun i => some (.bool (decide (w < LT.rot w (1 + i))))) ?_ (by simp; omega) ?_).trans (by rw [fm_some])
      · have e : slM false (.list (turnL w)) (some 1) none h = some (.ok (.t (.list ((List.range (w.length - 1)).map fun i => .str (tx (LT.rot w (1 + i)))))) h) := by
          show mk false (cutP (turnL w) (some ((1 : Nat) : Int)) none) h = _
          rw [cut_fromL, tl]
          rfl
        generalize turnL w = L at *
        generalize F__law_turns = FT at *
        simp -implicitDefEqProofs [iAny, lt, e]
      · intro i hi acc
        have e : ltP (.str (tx w)) (.str (tx (LT.rot w (1 + i)))) = some (.bool (decide (w < LT.rot w (1 + i)))) := by
          show some (PyData.bool (decide ((tx w).cps.toList < (tx (LT.rot w (1 + i))).cps.toList))) = _
          simp
        generalize decide (w < LT.rot w (1 + i)) = bb at *
        generalize tx (LT.rot w (1 + i)) = I at *
        simp -implicitDefEqProofs [e]
    have al := all_map (List.range (w.length - 1)) (fun i => decide (w < LT.rot w (1 + i)))
    have lb : ldB w = (List.range (w.length - 1)).all (fun i => decide (w < LT.rot w (1 + i))) := by
      unfold ldB
      cases w with
      | nil => exact absurd rfl h0
      | cons _ _ => rfl
    rw [lb]
    generalize (List.range (w.length - 1)).all (fun i => decide (w < LT.rot w (1 + i))) = bb at *
    generalize (List.range (w.length - 1)).map (fun i => PyData.bool (decide (w < LT.rot w (1 + i)))) = L at *
    generalize hLC : dLc false _ _ _ _ _ = LC at *
    have e : g__law_leads [some (.t (.str (tx w))), none] h = some (.rt (.t (.bool bb)), [some (.t (.str (tx w))), none], h) := by
      unfold g__law_leads
      rw [hLC]
      simp -implicitDefEqProofs [emp, q0, h0, lc, al]
    simp -implicitDefEqProofs [F__law_leads, e]
theorem ld_iff {w : List Nat} {r m : Nat} (h0 : 0 < w.length) (hr : RootOf w r) (f : LT.Fst w m) : (w.take r = w ∧ m = 0) ↔ LY.Ld w := by
  have rl := root_le h0 hr
  constructor
  · rintro ⟨h1, rfl⟩
    have hrn : r = w.length := by
      have := congrArg List.length h1
      rw [List.length_take] at this
      omega
    refine LY.rot_ld h0 fun x x0 xl => ?_
    have a := LT.least_all f x
    rcases List.le_iff_lt_or_eq.mp (List.not_lt.mp a) with q | q
    · exact q
    · exact absurd q (rot_inj h0 hr x0 (by omega))
  · intro h
    have m0 : m = 0 := by
      by_cases q : m = 0
      · exact q
      · exfalso
        have := LY.ld_rot h m (by omega) f.1
        exact f.2.1 0 h0 this
    refine ⟨?_, m0⟩
    by_cases q : r < w.length
    · exfalso
      have := LY.ld_rot h r hr.1 q
      rw [rot_cover h0 hr r, Nat.mod_self] at this
      exact List.lt_irrefl _ this
    · exact List.take_of_length_le (by omega)
theorem e_is_leading_of {w : List Nat} (h0 : w ≠ []) (hw : w.length ≤ 4000) (h : Hd) : F_is_leading_of [.t (.str (tx w))] h = some (.ok (.t (.bool (ldB w))) h) := by
  have hl : 0 < w.length := List.length_pos_iff.mpr h0
  obtain ⟨m, f⟩ := LT.fst_ex w hl
  obtain ⟨r, hr⟩ := root_ex hl
  have c1 := e_root_by hw hl hr h
  have c2 := e_least_turn w m h (by omega) f
  have li := ld_iff hl hr f
  rw [← ldB_iff] at li
  have xe : tx (w.take r) = tx w ↔ w.take r = w := tx_inj
  generalize w.take r = T at *
  unfold F_is_leading_of g_is_leading_of
  generalize F_root_by = FR at *
  generalize F_least_turn = FL at *
  by_cases q : T = w
  · have q' : tx T = tx w := xe.mpr q
    rw [q'] at c1
    by_cases g : m = 0
    · have : ldB w = true := li.mp ⟨q, g⟩
      rw [this]
      subst g
      simp -implicitDefEqProofs [c1, c2]
    · have : ldB w = false := by
        cases e : ldB w with
        | false => rfl
        | true => exact absurd (li.mpr e).2 g
      rw [this]
      have g' : ¬ ((m : Int) = 0) := by omega
      simp -implicitDefEqProofs [c1, c2, g, g']
  · have q' : ¬ tx T = tx w := fun e => q (xe.mp e)
    have : ldB w = false := by
      cases e : ldB w with
      | false => rfl
      | true => exact absurd (li.mpr e).1 q
    rw [this]
    generalize tx T = TT at *
    simp -implicitDefEqProofs [c1, c2, q']
/-- is_leading of any value -/
def isLd (d : PyData) : Bool := isRow d && match d with
  | .str x => ldB x.cps.toList
  | _ => false
theorem e_is_leading (d : PyData) (h : Hd) (hd : ∀ x, d = .str x → x.length ≤ sizeLine) : F_is_leading [.t d] h = some (.ok (.t (.bool (isLd d))) h) := by
  have c1 := e_is_row_of d h hd
  have no : ∀ d : PyData, isRow d = false → F_is_row_of [.t d] h = some (.ok (.t (.bool false)) h) → F_is_leading [.t d] h = some (.ok (.t (.bool (isLd d))) h) := fun d hr c => by
    have : isLd d = false := by simp [isLd, hr]
    rw [this]
    unfold F_is_leading g_is_leading
    generalize F_is_leading_of = FL at *
    generalize F_is_row_of = FR at *
    simp -implicitDefEqProofs [c]
  cases hr : isRow d with
  | false =>
    rw [hr] at c1
    exact no d hr c1
  | true =>
    rw [hr] at c1
    cases d with
    | str x =>
      have ex : x = tx x.cps.toList := (tx_cps x).symm
      have e : isLd (.str x) = ldB x.cps.toList := by simp [isLd, hr]
      rw [e]
      have hl : x.length ≤ 400 := by
        simp only [isRow, Bool.and_eq_true] at hr
        exact of_decide_eq_true hr.1
      by_cases h0 : x.cps.toList = []
      · have x0 : x = tx [] := by rw [ex, h0]
        rw [h0]
        have : ldB [] = false := rfl
        rw [this]
        unfold F_is_leading g_is_leading
        generalize F_is_leading_of = FL at *
        generalize F_is_row_of = FR at *
        rw [x0] at c1 ⊢
        simp -implicitDefEqProofs [c1, emp]
      · have x0 : ¬ x = tx [] := fun e => h0 (by rw [e])
        have c2 := e_is_leading_of h0 (show x.cps.toList.length ≤ 4000 by simpa [Str.length] using (show x.length ≤ 4000 by omega)) h
        rw [tx_cps] at c2
        unfold F_is_leading g_is_leading
        generalize ldB x.cps.toList = bb at *
        generalize F_is_leading_of = FL at *
        generalize F_is_row_of = FR at *
        simp -implicitDefEqProofs [c1, c2, emp, x0]
    | _ => simp [isRow] at hr
theorem isLd_tx {w : List Nat} (hw : Rw w) : isLd (.str (tx w)) = ldB w := by
  have := hw.is
  simp [isLd, this]
theorem nf_ex {w : List Nat} (hw : w.length ≤ 4000) : ∃ L, LY.NF L w := by
  obtain ⟨L, _, h⟩ := @e_factors_of w [] hw
  exact ⟨L, h⟩
theorem e_factoring {w : List Nat} {L : List (List Nat)} (hw : Rw w) (hL : LY.NF L w) (h : Hd) : F_factoring [.t (.str (tx w))] h = some (.ok (.t (.tuple (txs L))) h) := by
  have hl := hw.2
  obtain ⟨M, e, hM⟩ := @e_factors_of w h (by omega)
  rw [LY.nf_one hM hL] at e
  have c := e_chk hw h
  generalize txs L = T at *
  simp -implicitDefEqProofs [F_factoring, g_factoring, c, e]
theorem nf_rw {w : List Nat} {L : List (List Nat)} (hw : Rw w) (hL : LY.NF L w) : ∀ u ∈ L, Rw u := by
  intro u hu
  have sub : u.Sublist w := by
    rw [← hL.flat]
    exact List.sublist_flatten_of_mem hu
  exact ⟨fun c hc => hw.1 c (sub.subset hc), Nat.le_trans sub.length_le hw.2⟩
theorem zip_pair : ∀ M : List (List Nat), (M.zip (M.drop 1)).all (fun ab => !decide (ab.1 < ab.2)) = true ↔ M.Pairwise fun a b => b ≤ a
  | [] => by simp
  | [a] => by simp
  | a :: b :: M => by
    have ih := zip_pair (b :: M)
    have e : ((a :: b :: M).zip ((a :: b :: M).drop 1)) = (a, b) :: ((b :: M).zip ((b :: M).drop 1)) := rfl
    rw [e, List.all_cons, Bool.and_eq_true, ih]
    have e2 : (!decide (a < b)) = true ↔ b ≤ a := by
      rw [Bool.not_eq_true', decide_eq_false_iff_not]
      exact List.not_lt
    rw [e2]
    constructor
    · rintro ⟨h1, h2⟩
      rw [List.pairwise_cons]
      refine ⟨fun c hc => ?_, h2⟩
      rcases List.mem_cons.mp hc with q | q
      · rw [q]; exact h1
      · exact List.le_trans ((List.pairwise_cons.mp h2).1 c q) h1
    · intro h
      rw [List.pairwise_cons] at h
      exact ⟨h.1 b (by simp), h.2⟩
theorem txs_str : ∀ M : List (List Nat), strsP (txs M) = some (M.map tx) := fun M => str_map M tx
theorem join_txs {M : List (List Nat)} (hl : M.flatten.length ≤ 16777216) : joinP (.str (tx [])) [.tuple (txs M)] = some (.str (tx M.flatten)) := by
  have := join_tx M hl
  exact this
theorem txs_drop (M : List (List Nat)) (k : Nat) : (txs M).drop k = txs (M.drop k) := by simp [txs, List.map_drop]
theorem txs_len (M : List (List Nat)) : (txs M).length = M.length := by simp [txs]
theorem zip_txs : ∀ A B : List (List Nat), zipD (txs A) (txs B) = (A.zip B).map fun ab => .tuple [.str (tx ab.1), .str (tx ab.2)]
  | [], _ => by simp [zipD, txs]
  | _ :: _, [] => by simp [zipD, txs]
  | a :: A, b :: B => by
    have ih := zip_txs A B
    simp only [zipD, txs] at ih ⊢
    simp [ih]
theorem e_is_fac {w : List Nat} {L M : List (List Nat)} (hw : Rw w) (hL : LY.NF L w) (hM : M.length ≤ 1000) (hM2 : ∀ u ∈ M, u.length ≤ 1000) (h : Hd) : F_is_factoring [.t (.str (tx w)), .t (.tuple (txs M))] h = some (.ok (.t (.bool (decide (M = L)))) h) := by
  have hl := hw.2
  have c := e_chk hw h
  have fl : M.flatten.length ≤ 1000000 := by
    have key : ∀ M : List (List Nat), (∀ u ∈ M, u.length ≤ 1000) → M.flatten.length ≤ M.length * 1000 := by
      intro M
      induction M with
      | nil => simp
      | cons m M ih =>
        intro hm
        have h1 := hm m (by simp)
        have := ih fun u hu => hm u (by simp [hu])
        rw [List.flatten_cons, List.length_append, List.length_cons, Nat.succ_mul]
        omega
    have := key M hM2
    omega
  have lc1 : dLc false (iAny (eVar 1)) (gN 2) tYesD (dCall F_is_leading (aCons (eVar 2) aNil)) [2] [some (.t (.str (tx w))), some (.t (.tuple (txs M))), none, none] h = some (.ok (.t (.list (M.map fun u => .bool (isLd (.str (tx u)))))) h) := by
    refine (lc_pure (xs := M) (enc := fun u => .str (tx u)) (fun u => some (.bool (isLd (.str (tx u))))) ?_ (by simp; omega) ?_).trans (by rw [fm_some])
    · simp -implicitDefEqProofs [iAny, txs]
    · intro u hu acc
      have e := e_is_leading (.str (tx u)) (h ++ [.lst acc]) (fun x e => by cases e; rw [tx_len]; have := hM2 u hu; simp; omega)
      generalize isLd (.str (tx u)) = bb at *
      generalize F_is_leading = FF at *
      simp -implicitDefEqProofs [e]
  have al := all_map M (fun u => isLd (.str (tx u)))
  have lc2 : dLc false (DL.iZip (aCons (eVar 1) (aCons (dSl false (eVar 1) (oSome (eC (.t (.int 1)))) oNone) aNil))) (gT 2 (gsCons (gN 2) (gsCons (gN 3) gsNil))) tYesD (dBin geP (eVar 2) (eVar 3)) [2, 3] [some (.t (.str (tx w))), some (.t (.tuple (txs M))), none, none] h = some (.ok (.t (.list ((M.zip (M.drop 1)).map fun ab => .bool (!decide (ab.1 < ab.2))))) h) := by
    refine (lc_pure (xs := M.zip (M.drop 1)) (enc := fun ab => .tuple [.str (tx ab.1), .str (tx ab.2)]) (fun ab => some (.bool (!decide (ab.1 < ab.2)))) ?_ (by simp; omega) ?_).trans (by rw [fm_some])
    · have e : slM false (.tuple (txs M)) (some 1) none h = some (.ok (.t (.tuple (txs (M.drop 1)))) h) := by
        have e0 : cutP (txs M) (some 1) none = txs (M.drop 1) := by
          have := cut_fromL (txs M) 1
          rw [txs_drop] at this
          exact this
        show DL.ret (D.t (PyData.tuple (cutP (txs M) (some 1) none))) h = _
        rw [e0]
        rfl
      have z := zip_txs M (M.drop 1)
      refine Eq.trans ?_ (congrArg (fun l => some (Res.ok l h)) z)
      generalize txs (M.drop 1) = T1 at *
      generalize txs M = T at *
      simp -implicitDefEqProofs [DL.iZip, zipM, e]
    · intro ab hab acc
      have e : geP (.str (tx ab.1)) (.str (tx ab.2)) = some (.bool (!decide (ab.1 < ab.2))) := by
        show some (PyData.bool (!decide ((tx ab.1).cps.toList < (tx ab.2).cps.toList))) = _
        simp
      generalize (!decide (ab.1 < ab.2)) = bb at *
      simp -implicitDefEqProofs [gT, gsCons, gsNil, e]
  have al2 := all_map (M.zip (M.drop 1)) (fun ab => !decide (ab.1 < ab.2))
  have zp := zip_pair M
  have jn := join_txs (M := M) (by omega)
  have lead : M.all (fun u => isLd (.str (tx u))) = true ↔ ∀ u ∈ M, Rw u ∧ LY.Ld u := by
    rw [List.all_eq_true]
    constructor
    · intro h u hu
      have := h u hu
      simp only [isLd, Bool.and_eq_true, isRow, tx_len] at this
      refine ⟨⟨fun c hc => ?_, of_decide_eq_true this.1.1⟩, ldB_iff.mp (by simpa using this.2)⟩
      have := List.all_eq_true.mp this.1.2 c (by simpa using hc)
      exact of_decide_eq_true this
    · intro h u hu
      rw [isLd_tx (h u hu).1]
      exact ldB_iff.mpr (h u hu).2
  have fin : decide (M = L) = (M.all (fun u => isLd (.str (tx u))) && (decide (M.flatten = w) && (M.zip (M.drop 1)).all (fun ab => !decide (ab.1 < ab.2)))) := by
    rw [Bool.eq_iff_iff, decide_eq_true_iff, Bool.and_eq_true, Bool.and_eq_true, lead, zp, decide_eq_true_iff]
    constructor
    · rintro rfl
      exact ⟨fun u hu => ⟨nf_rw hw hL u hu, hL.all u hu⟩, hL.flat, hL.sort⟩
    · rintro ⟨a, b, c⟩
      exact LY.nf_one ⟨fun u hu => (a u hu).2, c, b⟩ hL
  rw [fin]
  have xe : (tx M.flatten = tx w) ↔ M.flatten = w := tx_inj
  generalize M.all (fun u => isLd (.str (tx u))) = A at *
  generalize (M.zip (M.drop 1)).all (fun ab => !decide (ab.1 < ab.2)) = B at *
  generalize (M.zip (M.drop 1)).map (fun ab => PyData.bool (!decide (ab.1 < ab.2))) = LB at *
  generalize M.map (fun u => PyData.bool (isLd (.str (tx u)))) = LA at *
  generalize M.flatten = F at *
  generalize txs M = T at *
  generalize hX1 : dLc false (iAny (eVar 1)) _ _ _ _ = X1 at *
  generalize hX2 : dLc false (DL.iZip _) _ _ _ _ = X2 at *
  have e : g_is_factoring [some (.t (.str (tx w))), some (.t (.tuple T)), none, none] h = some (.rt (.t (.bool (A && (decide (F = w) && B)))), [some (.t (.str (tx w))), some (.t (.tuple T)), none, none], h) := by
    unfold g_is_factoring
    rw [hX1, hX2]
    cases A with
    | false => simp -implicitDefEqProofs [c, lc1, al]
    | true =>
      by_cases q : F = w
      · subst q
        simp -implicitDefEqProofs [c, lc1, al, lc2, al2, emp, jn, tykP]
      · have q' : ¬ tx F = tx w := fun e => q (xe.mp e)
        generalize tx F = TF at *
        simp -implicitDefEqProofs [c, lc1, al, emp, jn, tykP, q, q']
  simp -implicitDefEqProofs [F_is_factoring, e]
end Lw
set_option Elab.async false
set_option linter.all false
set_option maxRecDepth 100000
set_option maxHeartbeats 2000000
namespace Lw
open PySem PySem.Spec L2 DL
open PyProof.Rows hiding St
theorem nf_rest {A B : List (List Nat)} {w : List Nat} (h : LY.NF (A ++ B) w) : LY.NF B B.flatten := ⟨fun u hu => h.all u (by simp [hu]), (List.pairwise_append.mp h.sort).2.1, rfl⟩
theorem max_lead {w l : List Nat} {L : List (List Nat)} (h : LY.NF (l :: L) w) : maxQ [.list ((List.range w.length).filterMap fun i => if ldB (w.take (1 + i)) = true then some (.int ((1 + i : Nat) : Int)) else none)] = some (.int (l.length : Nat)) := by
  have hl := h.all l (by simp)
  have pl : l <+: w := ⟨L.flatten, by rw [← h.flat, List.flatten_cons]⟩
  have lw := pl.length_le
  have l0 := hl.1
  obtain ⟨ns, hns⟩ : ∃ ns : List Int, ns = (List.range w.length).filterMap fun i => if ldB (w.take (1 + i)) = true then some ((1 + i : Nat) : Int) else none := ⟨_, rfl⟩
  have e1 : (List.range w.length).filterMap (fun i => if ldB (w.take (1 + i)) = true then some (PyData.int ((1 + i : Nat) : Int)) else none) = ns.map .int := by
    rw [hns, List.map_filterMap]
    congr 1
    funext i
    by_cases q : ldB (w.take (1 + i)) = true
    · rw [if_pos q, if_pos q]; rfl
    · rw [if_neg q, if_neg q]; rfl
  have tk : w.take l.length = l := by
    obtain ⟨r, hr⟩ := pl
    rw [← hr]; simp
  have hm : (l.length : Int) ∈ ns := by
    rw [hns, List.mem_filterMap]
    refine ⟨l.length - 1, List.mem_range.mpr (by omega), ?_⟩
    rw [show 1 + (l.length - 1) = l.length by omega, tk, if_pos (ldB_iff.mpr hl)]
  have hle : ∀ x ∈ ns, x ≤ (l.length : Int) := by
    intro x hx
    rw [hns, List.mem_filterMap] at hx
    obtain ⟨i, hi, e⟩ := hx
    have hi := List.mem_range.mp hi
    by_cases q : ldB (w.take (1 + i)) = true
    · rw [if_pos q] at e
      cases e
      have := LY.nf_first h (ldB_iff.mp q) (List.take_prefix _ _)
      rw [List.length_take] at this
      omega
    · rw [if_neg q] at e; cases e
  have mi := maxI_is ns (l.length : Int) hm hle
  have ne : ns ≠ [] := fun e => by rw [e] at hm; simp at hm
  rw [e1]
  unfold maxQ
  have e2 : maxP [.list (ns.map .int)] = some (.int (l.length : Nat)) := by
    show (intsP (ns.map .int)).bind _ = _
    rw [intsP_map]
    show (if ns = [] then none else some (PyData.int (maxI ns))) = _
    rw [if_neg ne, mi]
  rw [e2]
  rfl
section
variable {w : List Nat} {n : Nat} {o2 : Option D} {h : Hd}
theorem lf_lc (hw : w.length ≤ 400) : (dLc false (iRg2 (aCons (eC (.t (.int 1))) (aCons (dBin addP (dCW lenP (aCons (eVar 0) aNil)) (eC (.t (.int 1)))) aNil))) (gN 3) (dTru (dCall F__law_leads (aCons (dSl false (eVar 0) oNone (oSome (eVar 3))) aNil))) (eVar 3) [3]) [some (.t (.str (tx w))), some (.c n), o2, none] h = some (.ok (.t (.list ((List.range w.length).filterMap fun i => if ldB (w.take (1 + i)) = true then some (.int ((1 + i : Nat) : Int)) else none))) h) := by
  have hw' : w.length ≤ 16777216 := by omega
  refine lc_rng (lo := 1) (n := w.length) (fun i => if ldB (w.take (1 + i)) = true then some (.int ((1 + i : Nat) : Int)) else none) ?_ (by simp; omega) ?_
  · have q : w.length < 4611686018427387903 := by omega
    simp -implicitDefEqProofs [tx_len, hw', q, show DL.inR 1 = true from rfl]
  · intro i hi acc
    have e : ((1 : Int) + (i : Int)) = ((1 + i : Nat) : Int) := by omega
    rw [e]
    have c := e_law_leads (w := w.take (1 + i)) (by simp; omega) (h ++ [.lst acc])
    refine lcE_if (z := .int ((1 + i : Nat) : Int)) (c := ldB (w.take (1 + i))) (S1 := [some (.t (.str (tx w))), some (.c n), o2, some (.t (.int ((1 + i : Nat) : Int)))]) (by simp) ?_ (fun _ => by simp)
    have sl := sl_ab (S := [some (.t (.str (tx w))), some (.c n), o2, some (.t (.int ((1 + i : Nat) : Int)))]) (h := h ++ [.lst acc]) (ma := eVar 0) (ml := oNone) (mh := oSome (eVar 3)) (F := w) (lo := none) (hi := some ((1 + i : Nat) : Int)) rfl rfl rfl hw'
    rw [cut_to] at sl
    generalize ldB (w.take (1 + i)) = bb at *
    generalize w.take (1 + i) = U at *
    generalize dSl false _ _ _ = SS at *
    generalize F__law_leads = FF at *
    simp -implicitDefEqProofs [sl, c, -Int.natCast_add]
theorem lf_body {l : List Nat} {L A : List (List Nat)} (hN : LY.NF (l :: L) (l :: L).flatten) (hw : (l :: L).flatten.length ≤ 400) (hA : A.length ≤ 1000) : (sSeq (sSet 2 (dCW maxQ (aCons (dLc false (iRg2 (aCons (eC (.t (.int 1))) (aCons (dBin addP (dCW lenP (aCons (eVar 0) aNil)) (eC (.t (.int 1)))) aNil))) (gN 3) (dTru (dCall F__law_leads (aCons (dSl false (eVar 0) oNone (oSome (eVar 3))) aNil))) (eVar 3) [3]) aNil))) (sSeq (sDrop (dApp (eVar 1) (dSl false (eVar 0) oNone (oSome (eVar 2))))) (sSet 0 (dSl false (eVar 0) (oSome (eVar 2)) oNone)))) [some (.t (.str (tx (l :: L).flatten))), some (.c h.length), o2, none] (h ++ [.lst (txs A)]) = some (.nx, [some (.t (.str (tx L.flatten))), some (.c h.length), some (.t (.int (l.length : Nat))), none], h ++ [.lst (txs (A ++ [l]))]) := by
  have lc := @lf_lc (l :: L).flatten h.length o2 (h ++ [.lst (txs A)]) hw
  have mx := max_lead hN
  have hw' : (l :: L).flatten.length ≤ 16777216 := by omega
  have c1 : cutP (l :: L).flatten none (some (l.length : Int)) = l := by rw [cut_to, List.flatten_cons]; simp
  have c2 : cutP (l :: L).flatten (some (l.length : Int)) none = L.flatten := by rw [cut_from, List.flatten_cons]; simp
  have sn := txs_snoc A l
  have fewer : (txs A).length < 16777216 := by rw [txs_len]; omega
  rw [← sn]
  generalize (l :: L).flatten = W at *
  generalize L.flatten = W2 at *
  generalize txs A = TA at *
  generalize (dLc false (iRg2 (aCons (eC (.t (.int 1))) (aCons (dBin addP (dCW lenP (aCons (eVar 0) aNil)) (eC (.t (.int 1)))) aNil))) (gN 3) (dTru (dCall F__law_leads (aCons (dSl false (eVar 0) oNone (oSome (eVar 3))) aNil))) (eVar 3) [3]) = LC at *
  generalize (List.range W.length).filterMap _ = LL at *
  have s1 : sSet 2 (dCW maxQ (aCons LC aNil)) [some (.t (.str (tx W))), some (.c h.length), o2, none] (h ++ [.lst TA]) = some (.nx, [some (.t (.str (tx W))), some (.c h.length), some (.t (.int (l.length : Nat))), none], h ++ [.lst TA]) := by
    simp -implicitDefEqProofs [lc, mx]
  have sl1 := sl_ab (S := [some (.t (.str (tx W))), some (.c h.length), some (.t (.int (l.length : Nat))), none]) (h := h ++ [.lst TA]) (ma := eVar 0) (ml := oNone) (mh := oSome (eVar 2)) (F := W) (lo := none) (hi := some (l.length : Int)) rfl rfl rfl hw'
  have sl2 := sl_ab (S := [some (.t (.str (tx W))), some (.c h.length), some (.t (.int (l.length : Nat))), none]) (h := h ++ [.lst (TA ++ [.str (tx l)])]) (ma := eVar 0) (ml := oSome (eVar 2)) (mh := oNone) (F := W) (lo := some (l.length : Int)) (hi := none) rfl rfl rfl hw'
  rw [c1] at sl1
  rw [c2] at sl2
  generalize dSl false (eVar 0) oNone (oSome (eVar 2)) = SA at *
  generalize dSl false (eVar 0) (oSome (eVar 2)) oNone = SB at *
  rw [sSeq_nx s1]
  simp -implicitDefEqProofs [sl1, sl2, fewer]
theorem e_law_factors {L : List (List Nat)} (hw : w.length ≤ 400) (hN : LY.NF L w) : F__law_factors [.t (.str (tx w))] h = some (.ok (.t (.list (txs L))) h) := by
  have few : L.length ≤ w.length := by
    have f : LY.Fi w w.length L := ⟨Nat.le_refl _, hN.all, hN.sort, by rw [List.take_length]; exact hN.flat, fun l _ v v0 vp => by rw [List.drop_length] at vp; exact absurd (List.prefix_nil.mp vp) v0⟩
    exact fi_few f
  obtain ⟨⟨A, B, o2⟩, e1, i1, e3⟩ := whileN_run (t := (dTest (dBin neP (eVar 0) (eC (.t (.str (Str.ofString ""))))))) (b := (sSeq (sSet 2 (dCW maxQ (aCons (dLc false (iRg2 (aCons (eC (.t (.int 1))) (aCons (dBin addP (dCW lenP (aCons (eVar 0) aNil)) (eC (.t (.int 1)))) aNil))) (gN 3) (dTru (dCall F__law_leads (aCons (dSl false (eVar 0) oNone (oSome (eVar 3))) aNil))) (eVar 3) [3]) aNil))) (sSeq (sDrop (dApp (eVar 1) (dSl false (eVar 0) oNone (oSome (eVar 2))))) (sSet 0 (dSl false (eVar 0) (oSome (eVar 2)) oNone))))) (fun s : List (List Nat) × List (List Nat) × Option D => [some (.t (.str (tx s.2.1.flatten))), some (.c h.length), s.2.2, none]) (fun s => h ++ [.lst (txs s.1)]) (fun s => s.1 ++ s.2.1 = L) (fun s => !decide (s.2.1.flatten = [])) (fun s => s.2.1.length)
    (fun s hs => by
      have xe : (tx s.2.1.flatten = tx []) ↔ s.2.1.flatten = [] := tx_inj
      have de : decide (tx s.2.1.flatten = tx []) = decide (s.2.1.flatten = []) := decide_eq_decide.mpr xe
      rw [← de]
      generalize tx s.2.1.flatten = X at *
      simp -implicitDefEqProofs [emp])
    (fun s hs hc => by
      obtain ⟨A, B, o2⟩ := s
      have hs : A ++ B = L := hs
      cases B with
      | nil => simp at hc
      | cons l B =>
        have hN' := nf_rest (A := A) (B := l :: B) (by rw [hs]; exact hN)
        have fl : (l :: B).flatten.length ≤ 400 := by
          have := hN.flat
          rw [← hs, List.flatten_append] at this
          have := congrArg List.length this
          rw [List.length_append] at this
          omega
        have al : A.length ≤ 1000 := by
          have := congrArg List.length hs
          rw [List.length_append] at this
          omega
        exact ⟨(A ++ [l], B, some (.t (.int (l.length : Nat)))), @lf_body o2 h l B A hN' fl al, by show (A ++ [l]) ++ B = L; rw [← hs]; simp, by show B.length < (l :: B).length; simp⟩) fu ([], L, none) rfl (by rw [fu_eq]; show L.length < _; omega)
  have hB : B = [] := by
    simp only [Bool.not_eq_false', decide_eq_true_eq] at e3
    have i1 : A ++ B = L := i1
    cases B with
    | nil => rfl
    | cons b B =>
      have hb := (hN.all b (by rw [← i1]; simp)).1
      have e3 : (b :: B).flatten = [] := e3
      rw [List.flatten_cons] at e3
      rw [(List.append_eq_nil_iff.mp e3).1] at hb
      simp at hb
  subst hB
  have i1 : A = L := by have : A ++ [] = L := i1; simpa using this
  subst i1
  have e1' : sWhile fu (dTest (dBin neP (eVar 0) (eC (.t (.str (Str.ofString "")))))) (sSeq (sSet 2 (dCW maxQ (aCons (dLc false (iRg2 (aCons (eC (.t (.int 1))) (aCons (dBin addP (dCW lenP (aCons (eVar 0) aNil)) (eC (.t (.int 1)))) aNil))) (gN 3) (dTru (dCall F__law_leads (aCons (dSl false (eVar 0) oNone (oSome (eVar 3))) aNil))) (eVar 3) [3]) aNil))) (sSeq (sDrop (dApp (eVar 1) (dSl false (eVar 0) oNone (oSome (eVar 2))))) (sSet 0 (dSl false (eVar 0) (oSome (eVar 2)) oNone)))) [some (.t (.str (tx w))), some (.c h.length), none, none] (h ++ [.lst []]) = some (.nx, [some (.t (.str (tx [].flatten))), some (.c h.length), o2, none], h ++ [.lst (txs A)]) := by
    have := e1
    simp only [hN.flat] at this
    exact this
  have e : g__law_factors [some (.t (.str (tx w))), none, none, none] h = some (.rt (.c h.length), [some (.t (.str (tx [].flatten))), some (.c h.length), o2, none], h ++ [.lst (txs A)]) := by
    unfold g__law_factors
    have s1 : (sSet 1 (dLst true aNil)) [some (.t (.str (tx w))), none, none, none] h = some (.nx, [some (.t (.str (tx w))), some (.c h.length), none, none], h ++ [.lst []]) := by
      simp -implicitDefEqProofs
    rw [sSeq_nx s1, sSeq_nx e1']
    simp -implicitDefEqProofs
  simp -implicitDefEqProofs [F__law_factors, e]
/-! cut at drawn places -/
theorem e_law_cut {k : Nat} {x : Cell} (hw : w.length ≤ 400) (hx : h[n]? = some x) (g : Gp k x) (hk : k ≤ 9000) : ∃ (M : List (List Nat)) (y : Cell), F__law_cut [.c n, .t (.str (tx w))] h = some (.ok (.t (.tuple (txs M))) (h.set n y)) ∧ M.length ≤ w.length ∧ (∀ u ∈ M, u.length ≤ 400) ∧ (∀ u ∈ M, ∀ c ∈ u, c ∈ w) ∧ Gp (k + w.length) y := by
  have hl : n < h.length := (List.getElem?_eq_some_iff.mp hx).1
  obtain ⟨⟨v, M, y, o3⟩, e1, i1, e3⟩ := whileN_run (t := (dTest (dBin neP (eVar 1) (eC (.t (.str (Str.ofString ""))))))) (b := (sSeq (sSet 3 (dBin addP (eC (.t (.int 1))) (dCall F__law_take (aCons (eVar 0) (aCons (dCW lenP (aCons (eVar 1) aNil)) aNil))))) (sSeq (sDrop (dApp (eVar 2) (dSl false (eVar 1) oNone (oSome (eVar 3))))) (sSet 1 (dSl false (eVar 1) (oSome (eVar 3)) oNone))))) (fun s : List Nat × List (List Nat) × Cell × Option D => [some (.c n), some (.t (.str (tx s.1))), some (.c h.length), s.2.2.2]) (fun s => h.set n s.2.2.1 ++ [.lst (txs s.2.1)]) (fun s => s.1.length ≤ w.length ∧ (∀ c ∈ s.1, c ∈ w) ∧ s.2.1.length ≤ w.length - s.1.length ∧ (∀ u ∈ s.2.1, u.length ≤ 400) ∧ (∀ u ∈ s.2.1, ∀ c ∈ u, c ∈ w) ∧ Gp (k + (w.length - s.1.length)) s.2.2.1) (fun s => !decide (s.1 = [])) (fun s => s.1.length)
    (fun s hs => by
      have xe : (tx s.1 = tx []) ↔ s.1 = [] := tx_inj
      have de : decide (tx s.1 = tx []) = decide (s.1 = []) := decide_eq_decide.mpr xe
      rw [← de]
      generalize tx s.1 = X at *
      simp -implicitDefEqProofs [emp])
    (fun s hs hc => by
      obtain ⟨v, M, y, o3⟩ := s
      obtain ⟨h1, h1b, h2, h3, h3b, h4⟩ := hs
      simp only at h1 h1b h2 h3 h3b h4 hc
      have v0 : v ≠ [] := by simpa using hc
      have vl : 0 < v.length := List.length_pos_iff.mpr v0
      have hv' : v.length ≤ 16777216 := by omega
      have hz : (h.set n y ++ [Cell.lst (txs M)])[n]? = some y := by
        rw [List.getElem?_append_left (by simpa using hl)]
        exact set_at' hx
      obtain ⟨r, y', e, hr, gy⟩ := take_at (u := (v.length : Int)) v.length rfl hz h4 (by omega) vl (by omega)
      have hs2 : (h.set n y ++ [Cell.lst (txs M)]).set n y' = h.set n y' ++ [Cell.lst (txs M)] := by
        rw [List.set_append_left _ _ (by simpa using hl), List.set_set]
      rw [hs2] at e
      have c1 : cutP v none (some ((1 + r : Nat) : Int)) = v.take (1 + r) := cut_to _ _
      have c2 : cutP v (some ((1 + r : Nat) : Int)) none = v.drop (1 + r) := cut_from _ _
      have sn := txs_snoc M (v.take (1 + r))
      have fewer : (txs M).length < 16777216 := by rw [txs_len]; omega
      refine ⟨(v.drop (1 + r), M ++ [v.take (1 + r)], y', some (.t (.int ((1 + r : Nat) : Int)))), ?_, ⟨?_, ?_, ?_, ?_, ?_, ?_⟩, ?_⟩
      · show (sSeq (sSet 3 (dBin addP (eC (.t (.int 1))) (dCall F__law_take (aCons (eVar 0) (aCons (dCW lenP (aCons (eVar 1) aNil)) aNil))))) (sSeq (sDrop (dApp (eVar 2) (dSl false (eVar 1) oNone (oSome (eVar 3))))) (sSet 1 (dSl false (eVar 1) (oSome (eVar 3)) oNone)))) [some (.c n), some (.t (.str (tx v))), some (.c h.length), o3] (h.set n y ++ [.lst (txs M)]) = some (.nx, [some (.c n), some (.t (.str (tx (v.drop (1 + r))))), some (.c h.length), some (.t (.int ((1 + r : Nat) : Int)))], h.set n y' ++ [.lst (txs (M ++ [v.take (1 + r)]))])
        have hn : h.length = (h.set n y').length := by simp
        have s1 : (sSet 3 (dBin addP (eC (.t (.int 1))) (dCall F__law_take (aCons (eVar 0) (aCons (dCW lenP (aCons (eVar 1) aNil)) aNil))))) [some (.c n), some (.t (.str (tx v))), some (.c h.length), o3] (h.set n y ++ [.lst (txs M)]) = some (.nx, [some (.c n), some (.t (.str (tx v))), some (.c h.length), some (.t (.int ((1 + r : Nat) : Int)))], h.set n y' ++ [.lst (txs M)]) := by
          have e5 : (1 : Int) + (r : Int) = ((1 + r : Nat) : Int) := by omega
          generalize F__law_take = FF at *
          simp -implicitDefEqProofs [tx_len, hv', e, e5, -Int.natCast_add]
        rw [sSeq_nx s1, ← sn]
        rw [hn]
        generalize h.set n y' = hh at *
        have sl1 := sl_ab (S := [some (.c n), some (.t (.str (tx v))), some (.c hh.length), some (.t (.int ((1 + r : Nat) : Int)))]) (h := hh ++ [.lst (txs M)]) (ma := eVar 1) (ml := oNone) (mh := oSome (eVar 3)) (F := v) (lo := none) (hi := some ((1 + r : Nat) : Int)) rfl rfl rfl hv'
        have sl2 := sl_ab (S := [some (.c n), some (.t (.str (tx v))), some (.c hh.length), some (.t (.int ((1 + r : Nat) : Int)))]) (h := hh ++ [.lst (txs M ++ [.str (tx (v.take (1 + r)))])]) (ma := eVar 1) (ml := oSome (eVar 3)) (mh := oNone) (F := v) (lo := some ((1 + r : Nat) : Int)) (hi := none) rfl rfl rfl hv'
        rw [c1] at sl1
        rw [c2] at sl2
        generalize v.take (1 + r) = V1 at *
        generalize v.drop (1 + r) = V2 at *
        generalize txs M = TM at *
        generalize dSl false (eVar 1) oNone (oSome (eVar 3)) = SA at *
        generalize dSl false (eVar 1) (oSome (eVar 3)) oNone = SB at *
        simp -implicitDefEqProofs [sl1, sl2, fewer, -Int.natCast_add]
      · show (v.drop (1 + r)).length ≤ _
        simp; omega
      · exact fun c hc => h1b c (List.mem_of_mem_drop hc)
      · show (M ++ [v.take (1 + r)]).length ≤ w.length - (v.drop (1 + r)).length
        simp; omega
      · intro u hu
        have hu : u ∈ M ++ [v.take (1 + r)] := hu
        rcases List.mem_append.mp hu with q | q
        · exact h3 u q
        · rw [List.mem_singleton] at q
          rw [q, List.length_take]; omega
      · intro u hu
        have hu : u ∈ M ++ [v.take (1 + r)] := hu
        rcases List.mem_append.mp hu with q | q
        · exact h3b u q
        · rw [List.mem_singleton] at q
          rw [q]
          exact fun c hc => h1b c (List.mem_of_mem_take hc)
      · show Gp (k + (w.length - (v.drop (1 + r)).length)) y'
        exact gy.mono (by simp; omega)
      · show (v.drop (1 + r)).length < v.length
        simp; omega) fu (w, [], x, none) ⟨Nat.le_refl _, fun c hc => hc, by simp, by simp, by simp, by simpa using g⟩ (by rw [fu_eq]; show w.length < _; omega)
  obtain ⟨h1, h1b, h2, h3, h3b, h4⟩ := i1
  simp only at h1 h1b h2 h3 h3b h4 e3
  have v0 : v = [] := by simpa using e3
  subst v0
  have h4 : Gp (k + w.length) y := h4
  have hxs : h.set n x = h := by
    apply List.ext_getElem?
    intro i
    by_cases q : n = i
    · subst q; rw [set_at' hx, hx]
    · rw [List.getElem?_set_ne q]
  have e1' : sWhile fu (dTest (dBin neP (eVar 1) (eC (.t (.str (Str.ofString "")))))) (sSeq (sSet 3 (dBin addP (eC (.t (.int 1))) (dCall F__law_take (aCons (eVar 0) (aCons (dCW lenP (aCons (eVar 1) aNil)) aNil))))) (sSeq (sDrop (dApp (eVar 2) (dSl false (eVar 1) oNone (oSome (eVar 3))))) (sSet 1 (dSl false (eVar 1) (oSome (eVar 3)) oNone)))) [some (.c n), some (.t (.str (tx w))), some (.c h.length), none] (h ++ [.lst []]) = some (.nx, [some (.c n), some (.t (.str (tx []))), some (.c h.length), o3], h.set n y ++ [.lst (txs M)]) := by
    have := e1
    simp only [hxs] at this
    exact this
  refine ⟨M, y, ?_, by simpa using h2, h3, h3b, h4⟩
  have hn : h.length = (h.set n y).length := by simp
  have e : g__law_cut [some (.c n), some (.t (.str (tx w))), none, none] h = some (.rt (.t (.tuple (txs M))), [some (.c n), some (.t (.str (tx []))), some (.c h.length), o3], h.set n y ++ [.lst (txs M)]) := by
    unfold g__law_cut
    have s1 : (sSet 2 (dLst true aNil)) [some (.c n), some (.t (.str (tx w))), none, none] h = some (.nx, [some (.c n), some (.t (.str (tx w))), some (.c h.length), none], h ++ [.lst []]) := by
      simp -implicitDefEqProofs
    rw [sSeq_nx s1, sSeq_nx e1', hn]
    generalize h.set n y = hh at *
    simp -implicitDefEqProofs [rdws]
  have tk : (h.set n y ++ [Cell.lst (txs M)]).take h.length = h.set n y := by
    rw [List.take_append_of_le_length (by simp), List.take_of_length_le (by simp)]
  simp -implicitDefEqProofs [F__law_cut, e, tk]
end
end Lw
set_option Elab.async false
set_option linter.all false
set_option maxRecDepth 100000
set_option maxHeartbeats 2000000
namespace Lw
open PySem PySem.Spec L2 DL
open PyProof.Rows hiding St
/-! sorted letters -/
theorem sorted_at {w : List Nat} (hw : w.length ≤ 400) : ∃ cs : List Nat, sortR [.str (tx w)] = some ((cs.map fun c => [c]).map fun x => .str (tx x)) ∧ (∀ c ∈ cs, c ∈ w) ∧ cs.length = w.length := by
  have key : ∀ ss : List Str, (∀ s ∈ ss, ∃ c, s = tx [c] ∧ c ∈ w) → ∃ cs : List Nat, ss = cs.map (fun c => tx [c]) ∧ ∀ c ∈ cs, c ∈ w := by
    intro ss
    induction ss with
    | nil => intro _; exact ⟨[], rfl, by simp⟩
    | cons s ss ih =>
      intro hs
      obtain ⟨c, e, hc⟩ := hs s (by simp)
      obtain ⟨cs, e2, hcs⟩ := ih fun z hz => hs z (by simp [hz])
      exact ⟨c :: cs, by rw [e, e2]; rfl, fun d hd => by rcases List.mem_cons.mp hd with q | q; exact q ▸ hc; exact hcs d q⟩
  have pm := sortS_perm (w.map fun c => tx [c])
  obtain ⟨cs, e, hcs⟩ := key (sortS (w.map fun c => tx [c])) (fun s hs => by
    have := pm.mem_iff.mp hs
    obtain ⟨c, hc, rfl⟩ := List.mem_map.mp this
    exact ⟨c, rfl, hc⟩)
  refine ⟨cs, ?_, hcs, ?_⟩
  · have h1 : sortQ [.str (tx w)] = none := rfl
    unfold sortR
    rw [h1, Option.none_or]
    show (if (tx w).length ≤ sizeLine then some ((sortS ((tx w).cps.toList.map fun c => tx [c])).map PyData.str) else none) = _
    have hl : (tx w).length ≤ sizeLine := by rw [tx_len]; simp; omega
    have e2 : (tx w).cps.toList = w := by simp
    rw [if_pos hl, e2, e, List.map_map, List.map_map]
    rfl
  · have := pm.length_eq
    rw [e, List.length_map, List.length_map] at this
    exact this
theorem joinL_at {cs : List Nat} {S : DS} {h h' : Hd} {ma : DS → M D} (ea : ma S h = some (.ok (.t (.list ((cs.map fun c => [c]).map fun x => .str (tx x)))) h')) (hl : cs.length ≤ 1000) : dM "str" joinP (eC (.t (.str (Str.ofString "")))) (aCons ma aNil) S h = some (.ok (.t (.str (tx cs))) h') := by
  have := joinM_at (l := cs.map fun c => [c]) ea (by rw [flat_one]; omega)
  rwa [flat_one] at this
theorem low_az {w : List Nat} (hw : ∀ c ∈ w, c ∈ AZ) : Txt.lower (tx w) = tx w := by
  have az1 : ∀ c ∈ AZ, c < 128 ∧ lo1 c = c := by decide +kernel
  rw [lower_ascii (fun c hc => (az1 c (hw c (by simpa using hc))).1)]
  have e : (tx w).cps.map lo1 = (tx w).cps := by
    apply Array.ext'
    simp only [Array.toList_map]
    show List.map lo1 w = w
    conv => rhs; rw [← List.map_id w]
    apply List.map_congr_left
    intro c hc
    exact (az1 c (hw c hc)).2
  rw [e]
theorem low_up {w : List Nat} (hw : ∀ c ∈ w, c ∈ AZ) : Txt.lower (tx (upW w ++ [65])) ≠ tx (upW w ++ [65]) := by
  have az1 : ∀ c ∈ AZ, c - 32 < 128 := by decide
  intro e
  rw [lower_ascii (fun c hc => by
    have hc : c ∈ upW w ++ [65] := by simpa using hc
    rcases List.mem_append.mp hc with q | q
    · obtain ⟨d, hd, rfl⟩ := List.mem_map.mp q
      exact az1 d (hw d hd)
    · rw [List.mem_singleton] at q; omega)] at e
  have e1 := congrArg (fun s : Str => s.cps.toList) e
  simp only [Array.toList_map] at e1
  rw [List.map_append] at e1
  have := (List.append_inj e1 (by simp)).2
  revert this
  decide
def some3 (w : List Nat) : List PyData := [.str (tx w), .str (tx (w.take 4)), .str (tx (w ++ w)), .str (tx w.reverse), .str (tx []), .none, .int 7, .str (tx (upW w ++ [65]))]
theorem okR_txs {L : List (List Nat)} (h1 : L.length ≤ 100) (h2 : ∀ u ∈ L, Rw u) : okR (.tuple (txs L)) = true := by
  refine okE_tup (B := 10 * 400 + 2) (fun d hd => ?_) (by rw [txs_len]; omega)
  obtain ⟨u, hu, rfl⟩ := List.mem_map.mp hd
  exact okE_str (h2 u hu).cw (h2 u hu).2
theorem sh_txs {M : List (List Nat)} (h2 : ∀ u ∈ M, ∀ c ∈ u, c ∈ AZ) : SeqAt.shaped (.tuple (txs M)) = true := by
  have := lay_strs (l := M) (f := tx) (fun u hu => ok_tx fun c hc => az_lt c (h2 u hu c hc))
  simp [SeqAt.shaped, PyData.canLay0, PyData.depth, txs, this]
theorem eqv_txs : ∀ (M L : List (List Nat)), PyData.eqvAll (txs M) (txs L) = decide (M = L)
  | [], [] => rfl
  | [], _ :: _ => by simp [txs, PyData.eqvAll]
  | _ :: _, [] => by simp [txs, PyData.eqvAll]
  | a :: M, b :: L => by
    have ih := eqv_txs M L
    have e1 : PyData.eqvAll (txs (a :: M)) (txs (b :: L)) = (PyData.eqv (.str (tx a)) (.str (tx b)) && PyData.eqvAll (txs M) (txs L)) := by
      simp only [txs, List.map_cons]
      rw [PyData.eqvAll]
    have e2 : PyData.eqv (.str (tx a)) (.str (tx b)) = decide (a = b) := by
      rw [PyData.eqv]
      rw [Bool.eq_iff_iff]
      simp [tx_inj]
    rw [e1, e2, ih, Bool.eq_iff_iff]
    simp
theorem eq_txs {M L : List (List Nat)} (h1 : ∀ u ∈ M, ∀ c ∈ u, c ∈ AZ) (h2 : ∀ u ∈ L, ∀ c ∈ u, c ∈ AZ) : eqP (.tuple (txs M)) (.tuple (txs L)) = some (.bool (decide (M = L))) := by
  show (if SeqAt.shaped _ && SeqAt.shaped _ then some (PyData.bool (PyData.eqv _ _)) else none) = _
  rw [sh_txs h1, sh_txs h2, PyData.eqv, eqv_txs]
  rfl
theorem e_is_fac_no {w : List Nat} (hw : Rw w) (d : PyData) (hd : tyP d ≠ "tuple") (h : Hd) : F_is_factoring [.t (.str (tx w)), .t d] h = some (.ok (.t (.bool false)) h) := by
  have c := e_chk hw h
  unfold F_is_factoring g_is_factoring
  generalize dLc false _ _ _ _ _ = X1
  generalize F_check_row = FC at *
  have hb : (tyP d == "tuple") = false := by simpa using hd
  simp -implicitDefEqProofs [c, hb]
theorem e_is_fac_7 {w : List Nat} (hw : Rw w) (h : Hd) : F_is_factoring [.t (.str (tx w)), .t (.tuple [.int 7])] h = some (.ok (.t (.bool false)) h) := by
  have c := e_chk hw h
  have lc1 : dLc false (iAny (eVar 1)) (gN 2) tYesD (dCall F_is_leading (aCons (eVar 2) aNil)) [2] [some (.t (.str (tx w))), some (.t (.tuple [.int 7])), none, none] h = some (.ok (.t (.list ([7].map fun u : Int => .bool false))) h) := by
    refine (lc_pure (xs := [7]) (enc := fun u : Int => .int u) (fun u => some (.bool false)) ?_ (by simp) ?_).trans (by rw [fm_some])
    · simp -implicitDefEqProofs [iAny]
    · intro u hu acc
      have e := e_is_leading (.int u) (h ++ [.lst acc]) (fun x e => by cases e)
      have e2 : isLd (.int u) = false := rfl
      rw [e2] at e
      generalize F_is_leading = FF at *
      simp -implicitDefEqProofs [e]
  have al : allP [.list ([7].map fun u : Int => PyData.bool false)] = some (.bool false) := rfl
  unfold F_is_factoring g_is_factoring
  generalize dLc false (iAny (eVar 1)) _ _ _ _ = X1 at *
  generalize dLc false (DL.iZip _) _ _ _ _ = X2 at *
  generalize [7].map (fun u : Int => PyData.bool false) = LA at *
  generalize F_check_row = FC at *
  simp -implicitDefEqProofs [c, lc1, al]
theorem not_at {S : DS} {h : Hd} {A : DS → M Bool} {b : Bool} (a : A S h = some (.ok b h)) : tNotD A S h = some (.ok (!b) h) := by
  simp -implicitDefEqProofs [a]
theorem tru_at {S : DS} {h : Hd} {A : DS → M D} {b : Bool} (a : A S h = some (.ok (.t (.bool b)) h)) : dTru A S h = some (.ok b h) := by
  simp -implicitDefEqProofs [a]
theorem list_at {S : DS} {h : Hd} {m : DS → M D} {ds : List PyData} (e : m S h = some (.ok (.t (.tuple ds)) h)) : dCN false listP (aCons m aNil) S h = some (.ok (.t (.list ds)) h) := by
  simp -implicitDefEqProofs [e, listP]
/-- what a value is -/
def Vl (d : PyData) : Prop := (∃ M : List (List Nat), d = .tuple (txs M) ∧ M.length ≤ 400 ∧ (∀ u ∈ M, u.length ≤ 400) ∧ ∀ u ∈ M, ∀ c ∈ u, c ∈ AZ) ∨ d = .none ∨ d = .tuple [.int 7]
section
variable {n k : Nat} {h : Hd} {x : Cell} {w : List Nat} {L : List (List Nat)} {o3 o4 o5 : Option D}
theorem r_0 (hx : h[n]? = some x) (g : Gp k x) (hk : k ≤ 8000) : ∃ (w : List Nat) (y : Cell), (sSet 1 (dCall F__law_row (aCons (eVar 0) (aCons (dCW intP (aCons (dBin addP (eC (.t (.int 1))) (dCall F__law_take (aCons (eVar 0) (aCons (eC (.t (.int 3))) aNil)))) aNil)) (aCons (eC (.t (.int 0))) (aCons (eC (.t (.int 12))) aNil)))))) [some (.c n), none, none, none, none, none, none, none, none, none, none] h = some (.nx, [some (.c n), some (.t (.str (tx w))), none, none, none, none, none, none, none, none, none], h.set n y) ∧ (∀ c ∈ w, c ∈ AZ) ∧ w.length ≤ 12 ∧ Gp (k + 14) y := by
  obtain ⟨q, y1, e1, hr, g1⟩ := take_at (u := 3) 3 rfl hx g (by omega) (by omega) (by omega)
  obtain ⟨w, y2, e2, hw, _, hl, g2⟩ := row_ok (s := 1 + (q : Int)) (lo := 0) (hi := 12) (1 + q) 0 12 (by omega) rfl rfl (by omega) (by omega) (by omega) (set_at' (y := y1) hx) g1 (by omega)
  rw [List.set_set] at e2
  exact ⟨w, y2, by simp -implicitDefEqProofs [e1, e2], hw, hl, g2.mono (by omega)⟩
theorem r_1 (hw : ∀ c ∈ w, c ∈ AZ) (hwl : w.length ≤ 12) (hx : h[n]? = some x) (g : Gp k x) (hk : k ≤ 8000) : ∃ (v : List Nat) (y : Cell), (sSet 1 (dCall F__law_of (aCons (eVar 0) (aCons (dLst false (aCons (eVar 1) (aCons (eVar 1) (aCons (dRevA false (eVar 1)) (aCons (dM "str" joinP (eC (.t (.str (Str.ofString "")))) (aCons (dCN false sortR (aCons (eVar 1) aNil)) aNil)) (aCons (dRevA false (dM "str" joinP (eC (.t (.str (Str.ofString "")))) (aCons (dCN false sortR (aCons (eVar 1) aNil)) aNil))) (aCons (dBin mulP (dSl false (eVar 1) oNone (oSome (eC (.t (.int 3))))) (eC (.t (.int 4)))) aNil))))))) aNil)))) [some (.c n), some (.t (.str (tx w))), none, none, none, none, none, none, none, none, none] h = some (.nx, [some (.c n), some (.t (.str (tx v))), none, none, none, none, none, none, none, none, none], h.set n y) ∧ (∀ c ∈ v, c ∈ AZ) ∧ v.length ≤ 12 ∧ Gp (k + 1) y := by
  have hw' : w.length ≤ 16777216 := by omega
  obtain ⟨cs, es, hcs, csl⟩ := sorted_at (w := w) (by omega)
  have i2 : ∀ hh, (dRevA false (eVar 1)) [some (.c n), some (.t (.str (tx w))), none, none, none, none, none, none, none, none, none] hh = some (.ok (.t (.str (tx w.reverse))) hh) := fun hh => by
    simp -implicitDefEqProofs [tx_len, hw']
  have i3 : ∀ hh, (dM "str" joinP (eC (.t (.str (Str.ofString "")))) (aCons (dCN false sortR (aCons (eVar 1) aNil)) aNil)) [some (.c n), some (.t (.str (tx w))), none, none, none, none, none, none, none, none, none] hh = some (.ok (.t (.str (tx cs))) hh) := fun hh => by
    refine joinL_at ?_ (by omega)
    simp -implicitDefEqProofs [es]
  have i4 : ∀ hh, (dRevA false (dM "str" joinP (eC (.t (.str (Str.ofString "")))) (aCons (dCN false sortR (aCons (eVar 1) aNil)) aNil))) [some (.c n), some (.t (.str (tx w))), none, none, none, none, none, none, none, none, none] hh = some (.ok (.t (.str (tx cs.reverse))) hh) := fun hh => by
    have := i3 hh
    have hc' : cs.length ≤ 16777216 := by omega
    generalize (dM "str" joinP (eC (.t (.str (Str.ofString "")))) (aCons (dCN false sortR (aCons (eVar 1) aNil)) aNil)) = JJ at *
    simp -implicitDefEqProofs [this, tx_len, hc']
  have m := rep_s (w := w.take 3) 4 (by omega) (by simp; omega)
  have m' : mulP (.str (tx (w.take 3))) (.int 4) = some (.str (tx (List.replicate 4 (w.take 3)).flatten)) := m
  have i5 : ∀ hh, (dBin mulP (dSl false (eVar 1) oNone (oSome (eC (.t (.int 3))))) (eC (.t (.int 4)))) [some (.c n), some (.t (.str (tx w))), none, none, none, none, none, none, none, none, none] hh = some (.ok (.t (.str (tx (List.replicate 4 (w.take 3)).flatten))) hh) := fun hh => by
    refine bin_at (h1 := hh) (a := .str (tx (w.take 3))) (b := .int 4) ?_ (by simp -implicitDefEqProofs) m'
    have c3 : cutP w none (some (3 : Int)) = w.take 3 := cut_to w 3
    simp -implicitDefEqProofs [tx_len, hw', cut_tx, c3]
  have fl : (List.replicate 4 (w.take 3)).flatten.length ≤ 12 := by rw [flat_len]; simp; omega
  have fa : ∀ c ∈ (List.replicate 4 (w.take 3)).flatten, c ∈ AZ := by
    intro c hc
    rw [List.mem_flatten] at hc
    obtain ⟨z, hz, hz2⟩ := hc
    rw [List.eq_of_mem_replicate hz] at hz2
    exact hw c (List.mem_of_mem_take hz2)
  obtain ⟨t, z, y3, e4, hz, g3⟩ := law_of_ok (xs := [.str (tx w), .str (tx w), .str (tx w.reverse), .str (tx cs), .str (tx cs.reverse), .str (tx (List.replicate 4 (w.take 3)).flatten)]) hx g (by omega) (by simp) (by simp)
  have fin : ∃ p, z = .str (tx p) ∧ (∀ c ∈ p, c ∈ AZ) ∧ p.length ≤ 12 := by
    have := List.mem_of_getElem? hz
    simp only [List.mem_cons, List.not_mem_nil, or_false] at this
    rcases this with q | q | q | q | q | q
    · exact ⟨_, q, hw, hwl⟩
    · exact ⟨_, q, hw, hwl⟩
    · exact ⟨_, q, fun c hc => hw c (List.mem_reverse.mp hc), by simpa using hwl⟩
    · exact ⟨_, q, fun c hc => hw c (hcs c hc), by omega⟩
    · exact ⟨_, q, fun c hc => hw c (hcs c (List.mem_reverse.mp hc)), by rw [List.length_reverse]; omega⟩
    · exact ⟨_, q, fa, fl⟩
  obtain ⟨p, rfl, hp, hpl⟩ := fin
  refine ⟨p, y3, ?_, hp, hpl, g3⟩
  refine (set_at1 (d := .t (.str (tx p))) ?_).trans rfl
  generalize (List.replicate 4 (w.take 3)).flatten = F at *
  generalize (dBin mulP (dSl false (eVar 1) oNone (oSome (eC (.t (.int 3))))) (eC (.t (.int 4)))) = I5 at *
  generalize (dRevA false (dM "str" joinP (eC (.t (.str (Str.ofString "")))) (aCons (dCN false sortR (aCons (eVar 1) aNil)) aNil))) = I4 at *
  generalize (dM "str" joinP (eC (.t (.str (Str.ofString "")))) (aCons (dCN false sortR (aCons (eVar 1) aNil)) aNil)) = I3 at *
  generalize (dRevA false (eVar 1)) = I2 at *
  generalize F__law_of = FO at *
  simp -implicitDefEqProofs [i2, i3, i4, i5, e4]
theorem r_2 (hw : Rw w) (hwl : w.length ≤ 12) (hL : LY.NF L w) : (sSet 2 (dCW tupP (aCons (dCall F__law_factors (aCons (eVar 1) aNil)) aNil))) [some (.c n), some (.t (.str (tx w))), none, none, none, none, none, none, none, none, none] h = some (.nx, [some (.c n), some (.t (.str (tx w))), some (.t (.tuple (txs L))), none, none, none, none, none, none, none, none], h) := by
  have c := @e_law_factors w h L (by omega) hL
  generalize F__law_factors = FF at *
  generalize txs L = T at *
  simp -implicitDefEqProofs [c]
theorem r_3 (hw : Rw w) (hwl : w.length ≤ 12) (hL : LY.NF L w) : (sIf (tOrD (dTest (dBin neP (dCB reprP (aCons (dCallK F_factoring g_kb_factoring_0_row aNil (aCons (eVar 1) aNil)) aNil)) (dCB reprP (aCons (eVar 2) aNil)))) (tOrD (dTest (dBin isNotP (dCallK F_is_factoring g_kb_is_factoring_0_row_value aNil (aCons (eVar 1) (aCons (eVar 2) aNil))) (eC (.t (.bool true))))) (dTest (dBin isNotP (dCall F_is_factoring (aCons (eVar 1) (aCons (dCN false listP (aCons (eVar 2) aNil)) aNil))) (eC (.t (.bool false))))))) (sRet (eC (.t (.bool false)))) sNext) [some (.c n), some (.t (.str (tx w))), some (.t (.tuple (txs L))), none, none, none, none, none, none, none, none] h = some (.nx, [some (.c n), some (.t (.str (tx w))), some (.t (.tuple (txs L))), none, none, none, none, none, none, none, none], h) := by
  have few : L.length ≤ 12 := by
    have f : LY.Fi w w.length L := ⟨Nat.le_refl _, hL.all, hL.sort, by rw [List.take_length]; exact hL.flat, fun l _ v v0 vp => by rw [List.drop_length] at vp; exact absurd (List.prefix_nil.mp vp) v0⟩
    have := fi_few f
    omega
  have c1 := e_factoring hw hL h
  have c2 := e_is_fac hw hL (by omega) (fun u hu => Nat.le_trans (nf_rw hw hL u hu).2 (by omega)) h
  have d1 : decide (L = L) = true := decide_eq_true rfl
  rw [d1] at c2
  have c3 := e_is_fac_no hw (.list (txs L)) (by simp) h
  have ok := okR_txs (L := L) (by omega) (nf_rw hw hL)
  generalize txs L = T at *
  generalize F_factoring = FF at *
  generalize F_is_factoring = FI at *
  refine if_or (test_at (bin_at (h1 := h) (a := .str (PyData.tuple T).shown) (b := .str (PyData.tuple T).shown) (repr_at (one_at ?_) ok) (repr_at (one_at ?_) ok) (ne_same _))) (or_at (test_at (bin_at (h1 := h) (a := .bool true) (b := .bool true) ?_ ?_ rfl)) (test_at (bin_at (h1 := h) (a := .bool false) (b := .bool false) ?_ ?_ rfl)))
  · simp -implicitDefEqProofs [g_kb_factoring_0_row, c1]
  · simp -implicitDefEqProofs
  · simp -implicitDefEqProofs [g_kb_is_factoring_0_row_value, c2]
  · simp -implicitDefEqProofs
  · simp -implicitDefEqProofs [listP, c3]
  · simp -implicitDefEqProofs
theorem r_4 (hw : Rw w) (hwl : w.length ≤ 12) (hL : LY.NF L w) : (sIf (tOrD (dTest (dBin neP (dM "str" joinP (eC (.t (.str (Str.ofString "")))) (aCons (eVar 2) aNil)) (eVar 1))) (tNotD (dTru (dCW allP (aCons (dLc false (iZip (aCons (eVar 2) (aCons (dSl false (eVar 2) (oSome (eC (.t (.int 1)))) oNone) aNil))) (gT 2 (gsCons (gN 9) (gsCons (gN 10) gsNil))) tYesD (dBin geP (eVar 9) (eVar 10)) [9, 10]) aNil))))) (sRet (eC (.t (.bool false)))) sNext) [some (.c n), some (.t (.str (tx w))), some (.t (.tuple (txs L))), none, none, none, none, none, none, none, none] h = some (.nx, [some (.c n), some (.t (.str (tx w))), some (.t (.tuple (txs L))), none, none, none, none, none, none, none, none], h) := by
  have few : L.length ≤ 12 := by
    have f : LY.Fi w w.length L := ⟨Nat.le_refl _, hL.all, hL.sort, by rw [List.take_length]; exact hL.flat, fun l _ v v0 vp => by rw [List.drop_length] at vp; exact absurd (List.prefix_nil.mp vp) v0⟩
    have := fi_few f
    omega
  have jn := join_txs (M := L) (by rw [hL.flat]; omega)
  rw [hL.flat] at jn
  have lc2 : (dLc false (iZip (aCons (eVar 2) (aCons (dSl false (eVar 2) (oSome (eC (.t (.int 1)))) oNone) aNil))) (gT 2 (gsCons (gN 9) (gsCons (gN 10) gsNil))) tYesD (dBin geP (eVar 9) (eVar 10)) [9, 10]) [some (.c n), some (.t (.str (tx w))), some (.t (.tuple (txs L))), none, none, none, none, none, none, none, none] h = some (.ok (.t (.list ((L.zip (L.drop 1)).map fun ab => .bool (!decide (ab.1 < ab.2))))) h) := by
    refine (lc_pure (xs := L.zip (L.drop 1)) (enc := fun ab => .tuple [.str (tx ab.1), .str (tx ab.2)]) (fun ab => some (.bool (!decide (ab.1 < ab.2)))) ?_ (by simp; omega) ?_).trans (by rw [fm_some])
    · have e : slM false (.tuple (txs L)) (some 1) none h = some (.ok (.t (.tuple (txs (L.drop 1)))) h) := by
        have e0 : cutP (txs L) (some 1) none = txs (L.drop 1) := by
          have := cut_fromL (txs L) 1
          rw [txs_drop] at this
          exact this
        show DL.ret (D.t (PyData.tuple (cutP (txs L) (some 1) none))) h = _
        rw [e0]
        rfl
      have z := zip_txs L (L.drop 1)
      refine Eq.trans ?_ (congrArg (fun l => some (Res.ok l h)) z)
      generalize txs (L.drop 1) = T1 at *
      generalize txs L = T at *
      simp -implicitDefEqProofs [DL.iZip, zipM, e]
    · intro ab hab acc
      have e : geP (.str (tx ab.1)) (.str (tx ab.2)) = some (.bool (!decide (ab.1 < ab.2))) := by
        show some (PyData.bool (!decide ((tx ab.1).cps.toList < (tx ab.2).cps.toList))) = _
        simp
      generalize (!decide (ab.1 < ab.2)) = bb at *
      simp -implicitDefEqProofs [gT, gsCons, gsNil, e]
  have al2 := all_map (L.zip (L.drop 1)) (fun ab => !decide (ab.1 < ab.2))
  rw [(zip_pair L).mpr hL.sort] at al2
  generalize (L.zip (L.drop 1)).map (fun ab => PyData.bool (!decide (ab.1 < ab.2))) = LB at *
  generalize txs L = T at *
  generalize hX2 : dLc false _ _ _ _ _ = X2 at *
  refine if_or (test_at (bin_at (h1 := h) (a := .str (tx w)) (b := .str (tx w)) ?_ ?_ (ne_same _))) (not_at (b := true) (tru_at ?_))
  · simp -implicitDefEqProofs [emp, jn, tykP]
  · simp -implicitDefEqProofs
  · simp -implicitDefEqProofs [lc2, al2]
theorem v_body (hw : Rw w) (hwl : w.length ≤ 12) (hL : LY.NF L w) (d : PyData) (hd : Vl d) : ∃ b : Bool, (sSeq (sSet 4 (dAnd (dIsi "tuple" (eVar 3)) (dBin eqP (eVar 3) (eVar 2)))) (sIf (dTest (dBin neP (dCB reprP (aCons (dCall F_is_factoring (aCons (eVar 1) (aCons (eVar 3) aNil))) aNil)) (dCB reprP (aCons (eVar 4) aNil)))) (sRet (eC (.t (.bool false)))) sNext)) [some (.c n), some (.t (.str (tx w))), some (.t (.tuple (txs L))), some (.t d), o4, none, none, none, none, none, none] h = some (.nx, [some (.c n), some (.t (.str (tx w))), some (.t (.tuple (txs L))), some (.t d), some (.t (.bool b)), none, none, none, none, none, none], h) := by
  have few : L.length ≤ 12 := by
    have f : LY.Fi w w.length L := ⟨Nat.le_refl _, hL.all, hL.sort, by rw [List.take_length]; exact hL.flat, fun l _ v v0 vp => by rw [List.drop_length] at vp; exact absurd (List.prefix_nil.mp vp) v0⟩
    have := fi_few f
    omega
  have hLa : ∀ u ∈ L, ∀ c ∈ u, c ∈ AZ := fun u hu => (nf_rw hw hL u hu).1
  have main : ∃ b : Bool, F_is_factoring [.t (.str (tx w)), .t d] h = some (.ok (.t (.bool b)) h) ∧ (dAnd (dIsi "tuple" (eVar 3)) (dBin eqP (eVar 3) (eVar 2))) [some (.c n), some (.t (.str (tx w))), some (.t (.tuple (txs L))), some (.t d), o4, none, none, none, none, none, none] h = some (.ok (.t (.bool b)) h) := by
    rcases hd with ⟨M, rfl, m1, m2, m3⟩ | rfl | rfl
    · refine ⟨decide (M = L), e_is_fac hw hL (by omega) (fun u hu => Nat.le_trans (m2 u hu) (by omega)) h, ?_⟩
      have e := eq_txs m3 hLa
      generalize decide (M = L) = bb at *
      generalize txs M = TM at *
      generalize txs L = TL at *
      simp -implicitDefEqProofs [e]
    · refine ⟨false, e_is_fac_no hw .none (by simp) h, ?_⟩
      simp -implicitDefEqProofs
    · refine ⟨false, e_is_fac_7 hw h, ?_⟩
      have s7 : SeqAt.shaped (.tuple [.int 7]) = true := by decide
      have e : eqP (.tuple [.int 7]) (.tuple (txs L)) = some (.bool false) := by
        show (if SeqAt.shaped _ && SeqAt.shaped _ then some (PyData.bool (PyData.eqv _ _)) else none) = _
        rw [s7, sh_txs hLa, PyData.eqv]
        cases L with
        | nil => rfl
        | cons u L => simp [txs, PyData.eqvAll, PyData.eqv]
      generalize txs L = TL at *
      simp -implicitDefEqProofs [e]
  obtain ⟨b, c1, c2⟩ := main
  refine ⟨b, ?_⟩
  have ok := okR_bool b
  generalize (dAnd (dIsi "tuple" (eVar 3)) (dBin eqP (eVar 3) (eVar 2))) = DD at *
  generalize F_is_factoring = FF at *
  generalize txs L = TL at *
  simp -implicitDefEqProofs [c1, c2, ok]
theorem v_list (hw : Rw w) (hwl : w.length ≤ 12) (hL : LY.NF L w) (hx : h[n]? = some x) (g : Gp k x) (hk : k ≤ 8000) : ∃ (ds : List PyData) (y : Cell), (iAny (dBin addP (dLc false (iRg1 (aCons (eC (.t (.int 4))) aNil)) (gN 7) tYesD (dCall F__law_cut (aCons (eVar 0) (aCons (eVar 1) aNil))) [7]) (dLst false (aCons (dBin addP (eVar 2) (dTup (aCons (eC (.t (.str (Str.ofString "")))) aNil))) (aCons (dRevA false (eVar 2)) (aCons (dTup (aCons (eVar 1) aNil)) (aCons (eC (.t .none)) (aCons (dTup aNil) (aCons (dSl false (eVar 2) oNone (oSome (dUn negP (eC (.t (.int 1)))))) (aCons (dTup (aCons (eC (.t (.int 7))) aNil)) aNil)))))))))) [some (.c n), some (.t (.str (tx w))), some (.t (.tuple (txs L))), none, none, none, none, none, none, none, none] h = some (.ok ds (h.set n y)) ∧ (∀ d ∈ ds, Vl d) ∧ ds.length ≤ 20 ∧ Gp (k + 48) y := by
  have few : L.length ≤ 12 := by
    have f : LY.Fi w w.length L := ⟨Nat.le_refl _, hL.all, hL.sort, by rw [List.take_length]; exact hL.flat, fun l _ v v0 vp => by rw [List.drop_length] at vp; exact absurd (List.prefix_nil.mp vp) v0⟩
    have := fi_few f
    omega
  have hl : n < h.length := (List.getElem?_eq_some_iff.mp hx).1
  have hLa : ∀ u ∈ L, ∀ c ∈ u, c ∈ AZ := fun u hu => (nf_rw hw hL u hu).1
  have hLl : ∀ u ∈ L, u.length ≤ 400 := fun u hu => (nf_rw hw hL u hu).2
  obtain ⟨ys, h', e2, l2, g2, ⟨y, rfl, gy⟩, k2⟩ := lc_inv (S := [some (.c n), some (.t (.str (tx w))), some (.t (.tuple (txs L))), none, none, none, none, none, none, none, none]) (h := h) (h' := h) (m := iRg1 (aCons (eC (.t (.int 4))) aNil)) (f := gN 7) (t := tYesD) (e := dCall F__law_cut (aCons (eVar 0) (aCons (eVar 1) aNil))) (own := [7]) (xs := rngD 0 4)
    (fun j h1 => ∃ y, h1 = h.set n y ∧ Gp (k + 12 * j) y) Vl (by simp -implicitDefEqProofs [show DL.inR 4 = true from rfl]) (by simp [rngD]) ⟨x, by
      apply List.ext_getElem?
      intro i
      by_cases q : n = i
      · subst q; rw [set_at' hx, hx]
      · rw [List.getElem?_set_ne q], g⟩ (by
      intro d hd j h1 acc hj hl1 ⟨z, ez, gz⟩
      have hj3 : j < 4 := by simpa [rngD] using hj
      have hz : (h1 ++ [Cell.lst acc])[n]? = some z := by
        rw [List.getElem?_append_left (by rw [ez]; simpa using hl), ez]
        exact set_at' hx
      obtain ⟨M, y', e4, m1, m2, m3, gy'⟩ := @e_law_cut w n (h1 ++ [Cell.lst acc]) _ z (by omega) hz gz (by omega)
      have hs : (h1 ++ [Cell.lst acc]).set n y' = h.set n y' ++ [Cell.lst acc] := by
        rw [List.set_append_left _ _ (by rw [ez]; simpa using hl), ez, List.set_set]
      rw [hs] at e4
      refine ⟨.tuple (txs M), h.set n y', ?_, .inl ⟨M, rfl, by omega, m2, fun u hu c hc => hw.1 c (m3 u hu c hc)⟩, ⟨y', rfl, gy'.mono (by omega)⟩, by simp⟩
      generalize txs M = TM at *
      generalize txs L = TL at *
      generalize F__law_cut = FF at *
      simp -implicitDefEqProofs [e4])
  have ln : ys.length = 4 := by simpa [rngD] using l2
  have e3 : ∀ hh, (dLst false (aCons (dBin addP (eVar 2) (dTup (aCons (eC (.t (.str (Str.ofString "")))) aNil))) (aCons (dRevA false (eVar 2)) (aCons (dTup (aCons (eVar 1) aNil)) (aCons (eC (.t .none)) (aCons (dTup aNil) (aCons (dSl false (eVar 2) oNone (oSome (dUn negP (eC (.t (.int 1)))))) (aCons (dTup (aCons (eC (.t (.int 7))) aNil)) aNil)))))))) [some (.c n), some (.t (.str (tx w))), some (.t (.tuple (txs L))), none, none, none, none, none, none, none, none] hh = some (.ok (.t (.list [.tuple (txs (L ++ [[]])), .tuple (txs L.reverse), .tuple (txs [w]), .none, .tuple (txs []), .tuple (txs L.dropLast), .tuple [.int 7]])) hh) := fun hh => by
    have t1 : (txs L) ++ [PyData.str (tx [])] = txs (L ++ [[]]) := txs_snoc L []
    have t2 : (txs L).reverse = txs L.reverse := by simp [txs, List.map_reverse]
    have t3 : cutP (txs L) none (some (-1)) = txs L.dropLast := by
      have e : cutP (txs L) none (some (-1)) = (txs L).dropLast := by
        unfold cutP
        rw [HT.sIx_none]
        have : HT.sIx (txs L).length (txs L).length (some (-1)) = (txs L).length - 1 := by
          unfold HT.sIx
          simp
          omega
        rw [this, List.drop_zero, Nat.sub_zero, List.dropLast_eq_take]
      rw [e]
      simp [txs, List.map_dropLast]
    have t4 : [PyData.str (tx w)] = txs [w] := rfl
    have t5 : ([] : List PyData) = txs [] := rfl
    have tl : (txs L).length + 1 ≤ 16777216 := by rw [txs_len]; omega
    rw [← t1, ← t2, ← t3, ← t4, ← t5]
    generalize txs L = TL at *
    have st : ∀ hh, slM false (.tuple TL) none (some (-1)) hh = some (.ok (.t (.tuple (cutP TL none (some (-1))))) hh) := fun _ => rfl
    simp -implicitDefEqProofs [emp, tl, st]
  have q1 : ys.length + 7 ≤ 16777216 := by omega
  refine ⟨ys ++ [.tuple (txs (L ++ [[]])), .tuple (txs L.reverse), .tuple (txs [w]), .none, .tuple (txs []), .tuple (txs L.dropLast), .tuple [.int 7]], y, ?_, ?_, by simp; omega, gy.mono (by simp [rngD])⟩
  · generalize txs (L ++ [[]]) = A1 at *
    generalize txs L.reverse = A2 at *
    generalize txs [w] = A3 at *
    generalize txs ([] : List (List Nat)) = A4 at *
    generalize txs L.dropLast = A5 at *
    generalize txs L = TL at *
    generalize (dLst false (aCons (dBin addP (eVar 2) (dTup (aCons (eC (.t (.str (Str.ofString "")))) aNil))) (aCons (dRevA false (eVar 2)) (aCons (dTup (aCons (eVar 1) aNil)) (aCons (eC (.t .none)) (aCons (dTup aNil) (aCons (dSl false (eVar 2) oNone (oSome (dUn negP (eC (.t (.int 1)))))) (aCons (dTup (aCons (eC (.t (.int 7))) aNil)) aNil)))))))) = LL at *
    generalize dLc false _ _ _ _ _ = LC at *
    simp -implicitDefEqProofs [iAny, e2, e3, q1]
  · intro d hd
    rcases List.mem_append.mp hd with q | q
    · exact g2 d q
    · simp only [List.mem_cons, List.not_mem_nil, or_false] at q
      have azs : ∀ M : List (List Nat), (∀ u ∈ M, u ∈ L ∨ u = [] ∨ u = w) → M.length ≤ 400 → Vl (.tuple (txs M)) := fun M hM hl => .inl ⟨M, rfl, hl, fun u hu => by
        rcases hM u hu with a | a | a
        · exact hLl u a
        · rw [a]; simp
        · rw [a]; omega, fun u hu c hc => by
        rcases hM u hu with a | a | a
        · exact hLa u a c hc
        · rw [a] at hc; simp at hc
        · rw [a] at hc; exact hw.1 c hc⟩
      rcases q with rfl | rfl | rfl | rfl | rfl | rfl | rfl
      · exact azs _ (fun u hu => by
          rcases List.mem_append.mp hu with q | q
          · exact .inl q
          · rw [List.mem_singleton] at q; exact .inr (.inl q)) (by simp; omega)
      · exact azs _ (fun u hu => .inl (List.mem_reverse.mp hu)) (by simp; omega)
      · exact azs _ (fun u hu => by rw [List.mem_singleton] at hu; exact .inr (.inr hu)) (by simp)
      · exact .inr (.inl rfl)
      · exact azs [] (fun u hu => by simp at hu) (by simp)
      · exact azs _ (fun u hu => .inl ((List.dropLast_sublist L).subset hu)) (by simp; omega)
      · exact .inr (.inr rfl)
theorem r_5 (hw : Rw w) (hwl : w.length ≤ 12) (hL : LY.NF L w) (hx : h[n]? = some x) (g : Gp k x) (hk : k ≤ 8000) : ∃ (o3 o4 : Option D) (y : Cell), (sFor (iAny (dBin addP (dLc false (iRg1 (aCons (eC (.t (.int 4))) aNil)) (gN 7) tYesD (dCall F__law_cut (aCons (eVar 0) (aCons (eVar 1) aNil))) [7]) (dLst false (aCons (dBin addP (eVar 2) (dTup (aCons (eC (.t (.str (Str.ofString "")))) aNil))) (aCons (dRevA false (eVar 2)) (aCons (dTup (aCons (eVar 1) aNil)) (aCons (eC (.t .none)) (aCons (dTup aNil) (aCons (dSl false (eVar 2) oNone (oSome (dUn negP (eC (.t (.int 1)))))) (aCons (dTup (aCons (eC (.t (.int 7))) aNil)) aNil)))))))))) (gN 3) (sSeq (sSet 4 (dAnd (dIsi "tuple" (eVar 3)) (dBin eqP (eVar 3) (eVar 2)))) (sIf (dTest (dBin neP (dCB reprP (aCons (dCall F_is_factoring (aCons (eVar 1) (aCons (eVar 3) aNil))) aNil)) (dCB reprP (aCons (eVar 4) aNil)))) (sRet (eC (.t (.bool false)))) sNext))) [some (.c n), some (.t (.str (tx w))), some (.t (.tuple (txs L))), none, none, none, none, none, none, none, none] h = some (.nx, [some (.c n), some (.t (.str (tx w))), some (.t (.tuple (txs L))), o3, o4, none, none, none, none, none, none], h.set n y) ∧ Gp (k + 48) y := by
  obtain ⟨ds, y, e1, hv, hl, gy⟩ := v_list hw hwl hL hx g hk
  obtain ⟨S2, h2, e, ⟨o3, o4, rfl, rfl⟩⟩ := forL_inv (f := gN 3) (b := (sSeq (sSet 4 (dAnd (dIsi "tuple" (eVar 3)) (dBin eqP (eVar 3) (eVar 2)))) (sIf (dTest (dBin neP (dCB reprP (aCons (dCall F_is_factoring (aCons (eVar 1) (aCons (eVar 3) aNil))) aNil)) (dCB reprP (aCons (eVar 4) aNil)))) (sRet (eC (.t (.bool false)))) sNext))) (fun _ S hh => ∃ o3 o4, S = [some (.c n), some (.t (.str (tx w))), some (.t (.tuple (txs L))), o3, o4, none, none, none, none, none, none] ∧ hh = h.set n y) ds 0 [some (.c n), some (.t (.str (tx w))), some (.t (.tuple (txs L))), none, none, none, none, none, none, none, none] (h.set n y) ⟨none, none, rfl, rfl⟩ (fun j z S hh hz ⟨o3, o4, hS, hhh⟩ => by
    subst hS
    subst hhh
    obtain ⟨b, eb⟩ := @v_body n (h.set n y) w L o4 hw hwl hL z (hv z (List.mem_of_getElem? hz))
    exact ⟨[some (.c n), some (.t (.str (tx w))), some (.t (.tuple (txs L))), some (.t z), o4, none, none, none, none, none, none], [some (.c n), some (.t (.str (tx w))), some (.t (.tuple (txs L))), some (.t z), some (.t (.bool b)), none, none, none, none, none, none], h.set n y, by simp, eb, _, _, rfl, rfl⟩)
  refine ⟨o3, o4, y, ?_, gy⟩
  rw [x_sFor, sB_ok e1]
  exact e
end
end Lw
set_option Elab.async false
set_option linter.all false
set_option maxRecDepth 100000
set_option maxHeartbeats 2000000
namespace Lw
open PySem PySem.Spec L2 DL
open PyProof.Rows hiding St
theorem min_strs {l : List (List Nat)} {m : List Nat} (hc : ∀ y ∈ l, Cw y) (hm : m ∈ l) (hle : ∀ y ∈ l, ¬ y < m) : minQ [.list (txs l)] = some (.str (tx m)) := by
  cases l with
  | nil => simp at hm
  | cons x l =>
    have m1 : minP [.list (txs (x :: l))] = none := rfl
    unfold minQ
    rw [m1, Option.none_or]
    have sh : SeqAt.shaped (.list (txs (x :: l))) = true := sh_strs (l := x :: l) (f := tx) fun i hi => ok_tx (hc i hi)
    have al : alikeB (txs (x :: l)) = true := alike_strs (l := x :: l) (f := tx)
    have md := minD_str l x m (List.mem_cons.mp hm) (fun y hy => hle y (by simp [hy])) (hle x (by simp))
    have e : txs (x :: l) = .str (tx x) :: txs l := rfl
    rw [e] at sh al ⊢
    show (if _ && _ then some (PySem.W.minD _ _) else none) = _
    rw [sh, al]
    show some (PySem.W.minD (.str (tx x)) (txs l)) = _
    rw [show txs l = l.map fun y => .str (tx y) from rfl, md]
theorem cc_take {w : List Nat} {r : Nat} (h0 : 0 < w.length) (hr : RootOf w r) {i : Nat} (hi : i < w.length) : w.getD i 0 = LT.cc (w.take r) i := by
  have rl := root_le h0 hr
  have tl : (w.take r).length = r := take_ne h0 hr
  have hm : i % r < r := Nat.mod_lt _ hr.1
  have e1 : LT.cc (w.take r) i = w.getD (i % r) 0 := by
    unfold LT.cc
    rw [tl]
    simp [List.getElem?_take, hm]
  have e2 := LT.per_mul hr.2.2.1 (i / r) (i % r) (by rw [Nat.mul_comm, Nat.mod_add_div]; exact hi)
  rw [Nat.mul_comm, Nat.mod_add_div] at e2
  rw [e1, e2]
theorem ring_leads {w : List Nat} {r m : Nat} (h0 : 0 < w.length) (hr : RootOf w r) (f : LT.Fst (w.take r) m) : LY.Ld (LT.rot (w.take r) m) := by
  have tl : (w.take r).length = r := take_ne h0 hr
  have vl : (LT.rot (w.take r) m).length = r := by rw [LT.rot_len, tl]
  refine LY.rot_ld (by rw [vl]; exact hr.1) fun x x0 xl => ?_
  rw [vl] at xl
  rw [rot_zero, LT.rot_rot]
  rcases List.le_iff_lt_or_eq.mp (List.not_lt.mp (LT.least_all f (m + x))) with q | q
  · exact q
  · exfalso
    have c := rot_eq_cper (w := w.take r) (i := m) (j := m + x) (by omega) (by rw [tl]; exact hr.1) q
    rw [Nat.add_sub_cancel_left] at c
    obtain ⟨d, d0, dl, dd, dc⟩ := LT.cper_least (by rw [tl]; exact hr.1) x0 c
    rw [tl] at dd
    have per : LT.Per w d := fun i hi => by
      rw [cc_take h0 hr (by omega), cc_take h0 hr hi, dc]
    have := hr.2.2.2 d d0 (Nat.dvd_trans dd hr.2.1) per
    omega
theorem last_at (A : List (List Nat)) (l : List Nat) : atI (txs (A ++ [l])) (-1) = some (.str (tx l)) := by
  have e : txs (A ++ [l]) = txs A ++ [.str (tx l)] := (txs_snoc A l).symm
  rw [e]
  unfold atI ixN
  have : (txs A ++ [PyData.str (tx l)]).length = (txs A).length + 1 := by simp
  rw [this]
  simp
  rw [if_pos (by omega), show (-1 + (((txs A).length : Int) + 1)).toNat = (txs A).length by omega]
  simp
theorem few_of {w : List Nat} {L : List (List Nat)} (hL : LY.NF L w) : L.length ≤ w.length := by
  have f : LY.Fi w w.length L := ⟨Nat.le_refl _, hL.all, hL.sort, by rw [List.take_length]; exact hL.flat, fun l _ v v0 vp => by rw [List.drop_length] at vp; exact absurd (List.prefix_nil.mp vp) v0⟩
  exact fi_few f
section
variable {n k : Nat} {h : Hd} {x : Cell} {w : List Nat} {L : List (List Nat)} {o3 o4 o5 : Option D}
theorem lc_ends (hwl : w.length ≤ 12) : (dLc false (iRg1 (aCons (dCW lenP (aCons (eVar 1) aNil)) aNil)) (gN 8) tYesD (dSl false (eVar 1) (oSome (eVar 8)) oNone) [8]) [some (.c n), some (.t (.str (tx w))), some (.t (.tuple (txs L))), o3, o4, none, none, none, none, none, none] h = some (.ok (.t (.list (txs ((List.range w.length).map fun i => w.drop i)))) h) := by
  have hw' : w.length ≤ 16777216 := by omega
  refine (lc_rngM (lo := 0) (n := w.length) (fun i => .str (tx (w.drop i))) ?_ (by simp; omega) ?_).trans (by rw [txs, List.map_map]; rfl)
  · have q : w.length < 4611686018427387904 := by omega
    simp -implicitDefEqProofs [tx_len, hw', q]
  · intro i hi acc
    simp -implicitDefEqProofs [tx_len, hw', cut_tx, cut_from]
theorem r_6 (hw : Rw w) (hwl : w.length ≤ 12) (hL : LY.NF L w) : ∃ o5 : Option D, (sIf (dTest (dBin neP (eVar 1) (eC (.t (.str (Str.ofString "")))))) (sSeq (sSet 5 (dLc false (iRg1 (aCons (dCW lenP (aCons (eVar 1) aNil)) aNil)) (gN 8) tYesD (dSl false (eVar 1) (oSome (eVar 8)) oNone) [8])) (sSeq (sIf (tOrD (dTest (dBin neP (dIx ixP (eVar 2) (dUn negP (eC (.t (.int 1))))) (dCW minQ (aCons (eVar 5) aNil)))) (dTest (dBin isNotP (dCallK F_is_leading g_kb_is_leading_0_value aNil (aCons (dCall F_ring_of (aCons (dCall F_root_of (aCons (eVar 1) aNil)) aNil)) aNil)) (eC (.t (.bool true)))))) (sRet (eC (.t (.bool false)))) sNext) (sIf (dTest (dBin neP (dCall F_factoring (aCons (dIx ixP (eVar 2) (eC (.t (.int 0)))) aNil)) (dTup (aCons (dIx ixP (eVar 2) (eC (.t (.int 0)))) aNil)))) (sRet (eC (.t (.bool false)))) sNext))) sNext) [some (.c n), some (.t (.str (tx w))), some (.t (.tuple (txs L))), o3, o4, none, none, none, none, none, none] h = some (.nx, [some (.c n), some (.t (.str (tx w))), some (.t (.tuple (txs L))), o3, o4, o5, none, none, none, none, none], h) := by
  by_cases h0 : w = []
  · refine ⟨none, ?_⟩
    subst h0
    generalize (sSeq (sSet 5 (dLc false (iRg1 (aCons (dCW lenP (aCons (eVar 1) aNil)) aNil)) (gN 8) tYesD (dSl false (eVar 1) (oSome (eVar 8)) oNone) [8])) (sSeq (sIf (tOrD (dTest (dBin neP (dIx ixP (eVar 2) (dUn negP (eC (.t (.int 1))))) (dCW minQ (aCons (eVar 5) aNil)))) (dTest (dBin isNotP (dCallK F_is_leading g_kb_is_leading_0_value aNil (aCons (dCall F_ring_of (aCons (dCall F_root_of (aCons (eVar 1) aNil)) aNil)) aNil)) (eC (.t (.bool true)))))) (sRet (eC (.t (.bool false)))) sNext) (sIf (dTest (dBin neP (dCall F_factoring (aCons (dIx ixP (eVar 2) (eC (.t (.int 0)))) aNil)) (dTup (aCons (dIx ixP (eVar 2) (eC (.t (.int 0)))) aNil)))) (sRet (eC (.t (.bool false)))) sNext))) = BB
    simp -implicitDefEqProofs [emp]
  · have hl : 0 < w.length := List.length_pos_iff.mpr h0
    have q0 : ¬ tx w = tx [] := by rw [tx_inj]; exact h0
    have few := few_of hL
    -- the last one
    obtain ⟨A, l, hA⟩ : ∃ A l, L = A ++ [l] := by
      rcases List.eq_nil_or_concat L with e | ⟨A, l, e⟩
      · exfalso
        have := hL.flat
        rw [e] at this
        exact h0 this.symm
      · exact ⟨A, l, by rw [e, List.concat_eq_append]⟩
    have la := last_at A l
    rw [← hA] at la
    have lsuf : w = A.flatten ++ l := by rw [← hL.flat, hA]; simp
    have ll : 0 < l.length := (hL.all l (by rw [hA]; simp)).1
    have mn := min_strs (l := (List.range w.length).map fun i => w.drop i) (m := l) (fun y hy => by
      obtain ⟨i, _, rfl⟩ := List.mem_map.mp hy
      exact fun c hc => hw.cw c (List.mem_of_mem_drop hc)) (by
      refine List.mem_map.mpr ⟨A.flatten.length, List.mem_range.mpr ?_, ?_⟩
      · have := congrArg List.length lsuf
        rw [List.length_append] at this
        omega
      · rw [lsuf]; simp) (fun y hy => by
      obtain ⟨i, hi, rfl⟩ := List.mem_map.mp hy
      have hN := hL
      rw [hA] at hN
      exact LY.nf_last hN i (List.mem_range.mp hi))
    -- the first one
    obtain ⟨a, B, hB⟩ : ∃ a B, L = a :: B := by
      cases L with
      | nil => rw [← hL.flat] at h0; exact absurd rfl h0
      | cons a B => exact ⟨a, B, rfl⟩
    have fa : atI (txs L) 0 = some (.str (tx a)) := by
      rw [hB]
      exact atI_nat (i := 0) (by simp [txs])
    have ar := nf_rw hw hL a (by rw [hB]; simp)
    have an : LY.NF [a] a := ⟨fun u hu => by rw [List.mem_singleton] at hu; rw [hu]; exact hL.all a (by rw [hB]; simp), List.pairwise_singleton _ _, by simp⟩
    have cf := e_factoring ar an h
    have shf : SeqAt.shaped (.tuple (txs [a])) = true := sh_txs fun u hu c hc => by rw [List.mem_singleton] at hu; rw [hu] at hc; exact ar.1 c hc
    -- ring of root
    obtain ⟨r, hr⟩ := root_ex hl
    have rl := root_le hl hr
    have tl := take_ne hl hr
    have tr : Rw (w.take r) := ⟨fun c hc => hw.1 c (List.mem_of_mem_take hc), by rw [tl]; omega⟩
    have t0 : w.take r ≠ [] := fun e => by rw [e] at tl; have := hr.1; simp at tl; omega
    obtain ⟨m, f⟩ := LT.fst_ex (w.take r) (by rw [tl]; exact hr.1)
    have cr := e_root_of hw h0 hr h
    have cg := e_ring_of tr t0 f h
    have ld := ring_leads hl hr f
    have ci := e_is_leading (.str (tx (LT.rot (w.take r) m))) h (fun x e => by cases e; rw [tx_len, LT.rot_len, tl]; simp; omega)
    rw [isLd_tx (rot_rw tr m), ldB_iff.mpr ld] at ci
    have le := @lc_ends n h w L o3 o4 hwl
    refine ⟨some (.t (.list (txs ((List.range w.length).map fun i => w.drop i)))), ?_⟩
    have ne : dTest (dBin neP (eVar 1) (eC (.t (.str (Str.ofString ""))))) [some (.c n), some (.t (.str (tx w))), some (.t (.tuple (txs L))), o3, o4, none, none, none, none, none, none] h = some (.ok true h) := by
      generalize txs L = TL at *
      simp -implicitDefEqProofs [emp, q0, h0]
    have s0 := set_at1 (i := 5) le
    have hT : txs [a] = [.str (tx a)] := rfl
    rw [hT] at cf shf
    generalize txs L = TL at *
    generalize txs ((List.range w.length).map fun i => w.drop i) = TE at *
    generalize LT.rot (w.take r) m = RR at *
    generalize w.take r = WT at *
    have s1 : (sIf (tOrD (dTest (dBin neP (dIx ixP (eVar 2) (dUn negP (eC (.t (.int 1))))) (dCW minQ (aCons (eVar 5) aNil)))) (dTest (dBin isNotP (dCallK F_is_leading g_kb_is_leading_0_value aNil (aCons (dCall F_ring_of (aCons (dCall F_root_of (aCons (eVar 1) aNil)) aNil)) aNil)) (eC (.t (.bool true)))))) (sRet (eC (.t (.bool false)))) sNext) [some (.c n), some (.t (.str (tx w))), some (.t (.tuple TL)), o3, o4, some (.t (.list TE)), none, none, none, none, none] h = some (.nx, [some (.c n), some (.t (.str (tx w))), some (.t (.tuple TL)), o3, o4, some (.t (.list TE)), none, none, none, none, none], h) := by
      refine if_or (test_at (bin_at (h1 := h) (a := .str (tx l)) (b := .str (tx l)) ?_ ?_ (ne_same _))) (test_at (bin_at (h1 := h) (a := .bool true) (b := .bool true) ?_ ?_ rfl))
      · simp -implicitDefEqProofs [la]
      · simp -implicitDefEqProofs [mn]
      · simp -implicitDefEqProofs [cr, cg, ci, g_kb_is_leading_0_value]
      · simp -implicitDefEqProofs
    have s2 : (sIf (dTest (dBin neP (dCall F_factoring (aCons (dIx ixP (eVar 2) (eC (.t (.int 0)))) aNil)) (dTup (aCons (dIx ixP (eVar 2) (eC (.t (.int 0)))) aNil)))) (sRet (eC (.t (.bool false)))) sNext) [some (.c n), some (.t (.str (tx w))), some (.t (.tuple TL)), o3, o4, some (.t (.list TE)), none, none, none, none, none] h = some (.nx, [some (.c n), some (.t (.str (tx w))), some (.t (.tuple TL)), o3, o4, some (.t (.list TE)), none, none, none, none, none], h) := by
      refine if_no (test_at (bin_at (h1 := h) (a := .tuple [.str (tx a)]) (b := .tuple [.str (tx a)]) ?_ ?_ (ne_selfS shf)))
      · simp -implicitDefEqProofs [fa, cf]
      · simp -implicitDefEqProofs [fa]
    have s3 : (sSeq (sSet 5 (dLc false (iRg1 (aCons (dCW lenP (aCons (eVar 1) aNil)) aNil)) (gN 8) tYesD (dSl false (eVar 1) (oSome (eVar 8)) oNone) [8])) (sSeq (sIf (tOrD (dTest (dBin neP (dIx ixP (eVar 2) (dUn negP (eC (.t (.int 1))))) (dCW minQ (aCons (eVar 5) aNil)))) (dTest (dBin isNotP (dCallK F_is_leading g_kb_is_leading_0_value aNil (aCons (dCall F_ring_of (aCons (dCall F_root_of (aCons (eVar 1) aNil)) aNil)) aNil)) (eC (.t (.bool true)))))) (sRet (eC (.t (.bool false)))) sNext) (sIf (dTest (dBin neP (dCall F_factoring (aCons (dIx ixP (eVar 2) (eC (.t (.int 0)))) aNil)) (dTup (aCons (dIx ixP (eVar 2) (eC (.t (.int 0)))) aNil)))) (sRet (eC (.t (.bool false)))) sNext))) [some (.c n), some (.t (.str (tx w))), some (.t (.tuple TL)), o3, o4, none, none, none, none, none, none] h = some (.nx, [some (.c n), some (.t (.str (tx w))), some (.t (.tuple TL)), o3, o4, some (.t (.list TE)), none, none, none, none, none], h) := by
      rw [sSeq_nx s0]
      show sSeq _ _ [some (.c n), some (.t (.str (tx w))), some (.t (.tuple TL)), o3, o4, some (.t (.list TE)), none, none, none, none, none] h = _
      rw [sSeq_nx s1, s2]
    rw [x_sIf, sB_ok ne]
    exact s3
theorem r_7 (hw : Rw w) (hwl : w.length ≤ 12) : (sSet 6 (dLst false (aCons (eVar 1) (aCons (dSl false (eVar 1) oNone (oSome (eC (.t (.int 4))))) (aCons (dBin addP (eVar 1) (eVar 1)) (aCons (dRevA false (eVar 1)) (aCons (eC (.t (.str (Str.ofString "")))) (aCons (eC (.t .none)) (aCons (eC (.t (.int 7))) (aCons (dBin addP (dM "str" upP (eVar 1) aNil) (eC (.t (.str (Str.ofString "A"))))) aNil)))))))))) [some (.c n), some (.t (.str (tx w))), some (.t (.tuple (txs L))), o3, o4, o5, none, none, none, none, none] h = some (.nx, [some (.c n), some (.t (.str (tx w))), some (.t (.tuple (txs L))), o3, o4, o5, some (.t (.list (some3 w))), none, none, none, none], h) := by
  have hw' : w.length ≤ 16777216 := by omega
  have c1 : cutP w none (some (4 : Int)) = w.take 4 := cut_to w 4
  have al : w.length + w.length ≤ 16777216 := by omega
  have u := up_tx hw.1
  have f0 : fewS (tx w) = true := by simp [fewS, tx_len]; omega
  have ul : (upW w).length + 1 ≤ 16777216 := by simp [upW]; omega
  have lA : Str.ofString "A" = tx [65] := by decide +kernel
  unfold some3
  generalize upW w = U at *
  generalize w.take 4 = W4 at *
  simp -implicitDefEqProofs [emp, lA, tx_len, hw', cut_tx, c1, al, tx_add, upP, m0P, f0, tykP, u, ul]
theorem lawQ {a0 a1 a2 a4 a5 a6 a7 a8 a9 a10 : Option D} (hw : Rw w) (hwl : w.length ≤ 12) (d : PyData) (hd : d ∈ some3 w) : (dAnd (dIsi "str" (eVar 3)) (dAnd (dBin eqP (eVar 3) (dM "str" lowP (eVar 3) aNil)) (dCall F__law_leads (aCons (eVar 3) aNil)))) [a0, a1, a2, some (.t d), a4, a5, a6, a7, a8, a9, a10] h = some (.ok (.t (.bool (isLd d))) h) := by
  have key : ∀ V : List Nat, Rw V → (dAnd (dIsi "str" (eVar 3)) (dAnd (dBin eqP (eVar 3) (dM "str" lowP (eVar 3) aNil)) (dCall F__law_leads (aCons (eVar 3) aNil)))) [a0, a1, a2, some (.t (.str (tx V))), a4, a5, a6, a7, a8, a9, a10] h = some (.ok (.t (.bool (isLd (.str (tx V))))) h) := fun V hV => by
    have c := e_law_leads hV.2 h
    have lo := low_az hV.1
    have f0 : fewS (tx V) = true := by have := hV.2; simp [fewS, tx_len]; omega
    rw [isLd_tx hV]
    generalize ldB V = bb at *
    generalize tx V = TV at *
    generalize F__law_leads = FF at *
    simp -implicitDefEqProofs [lowP, m0P, f0, tykP, lo, c]
  have e4 : Rw (w.take 4) := ⟨fun c hc => hw.1 c (List.mem_of_mem_take hc), by simp; omega⟩
  have e2 : Rw (w ++ w) := ⟨fun c hc => by rcases List.mem_append.mp hc with q | q <;> exact hw.1 c q, by simp; omega⟩
  have er : Rw w.reverse := ⟨fun c hc => hw.1 c (List.mem_reverse.mp hc), by simp; omega⟩
  have e0 : Rw [] := ⟨by simp, by simp⟩
  simp only [some3, List.mem_cons, List.not_mem_nil, or_false] at hd
  rcases hd with rfl | rfl | rfl | rfl | rfl | rfl | rfl | rfl
  · exact key w hw
  · exact key _ e4
  · exact key _ e2
  · exact key _ er
  · exact key _ e0
  · have : isLd .none = false := rfl
    rw [this]
    generalize F__law_leads = FF at *
    simp -implicitDefEqProofs
  · have : isLd (.int 7) = false := rfl
    rw [this]
    generalize F__law_leads = FF at *
    simp -implicitDefEqProofs
  · have lo := low_up hw.1
    have f0 : fewS (tx (upW w ++ [65])) = true := by simp [fewS, tx_len, upW]; omega
    have no : isLd (.str (tx (upW w ++ [65]))) = false := by
      have : isRow (.str (tx (upW w ++ [65]))) = false := by
        have : (tx (upW w ++ [65])).cps.toList.all (fun c => decide (c ∈ AZ)) = false := by
          rw [List.all_eq_false]
          exact ⟨65, by simp, by decide⟩
        simp only [isRow, this, Bool.and_false]
      simp [isLd, this]
    rw [no]
    generalize tx (upW w ++ [65]) = TV at *
    have lo' : ¬ TV = Txt.lower TV := fun e => lo e.symm
    generalize F__law_leads = FF at *
    simp -implicitDefEqProofs [lowP, m0P, f0, tykP, lo']
theorem some3_len (hwl : w.length ≤ 12) (d : PyData) (hd : d ∈ some3 w) : ∀ x, d = .str x → x.length ≤ sizeLine := by
  intro x e
  subst e
  simp only [some3, List.mem_cons, List.not_mem_nil, or_false] at hd
  rcases hd with q | q | q | q | q | q | q | q <;> cases q <;> rw [tx_len] <;> simp [upW] <;> omega
theorem r_8 (hw : Rw w) (hwl : w.length ≤ 12) : (sRet (dBin eqP (dLc false (iAny (eVar 6)) (gN 3) tYesD (dCB reprP (aCons (dCall F_is_leading (aCons (eVar 3) aNil)) aNil)) [3]) (dLc false (iAny (eVar 6)) (gN 3) tYesD (dCB reprP (aCons (dAnd (dIsi "str" (eVar 3)) (dAnd (dBin eqP (eVar 3) (dM "str" lowP (eVar 3) aNil)) (dCall F__law_leads (aCons (eVar 3) aNil)))) aNil)) [3]))) [some (.c n), some (.t (.str (tx w))), some (.t (.tuple (txs L))), o3, o4, o5, some (.t (.list (some3 w))), none, none, none, none] h = some (.rt (.t (.bool true)), [some (.c n), some (.t (.str (tx w))), some (.t (.tuple (txs L))), o3, o4, o5, some (.t (.list (some3 w))), none, none, none, none], h) := by
  have A : (dLc false (iAny (eVar 6)) (gN 3) tYesD (dCB reprP (aCons (dCall F_is_leading (aCons (eVar 3) aNil)) aNil)) [3]) [some (.c n), some (.t (.str (tx w))), some (.t (.tuple (txs L))), o3, o4, o5, some (.t (.list (some3 w))), none, none, none, none] h = some (.ok (.t (.list ((some3 w).map fun d => .str (PyData.bool (isLd d)).shown))) h) := by
    refine (lc_pure (xs := some3 w) (enc := fun d => d) (fun d => some (.str (PyData.bool (isLd d)).shown)) (by simp -implicitDefEqProofs [iAny]) (by simp [some3]) ?_).trans (by rw [fm_some])
    intro d hd acc
    have e := e_is_leading d (h ++ [.lst acc]) (some3_len hwl d hd)
    have ok := okR_bool (isLd d)
    generalize isLd d = bb at *
    generalize F_is_leading = FF at *
    simp -implicitDefEqProofs [e, ok]
  have C : (dLc false (iAny (eVar 6)) (gN 3) tYesD (dCB reprP (aCons (dAnd (dIsi "str" (eVar 3)) (dAnd (dBin eqP (eVar 3) (dM "str" lowP (eVar 3) aNil)) (dCall F__law_leads (aCons (eVar 3) aNil)))) aNil)) [3]) [some (.c n), some (.t (.str (tx w))), some (.t (.tuple (txs L))), o3, o4, o5, some (.t (.list (some3 w))), none, none, none, none] h = some (.ok (.t (.list ((some3 w).map fun d => .str (PyData.bool (isLd d)).shown))) h) := by
    refine (lc_pure (xs := some3 w) (enc := fun d => d) (fun d => some (.str (PyData.bool (isLd d)).shown)) (by simp -implicitDefEqProofs [iAny]) (by simp [some3]) ?_).trans (by rw [fm_some])
    intro d hd acc
    have e := fun a0 a1 a2 a4 a5 a6 a7 a8 a9 a10 => @lawQ (h ++ [.lst acc]) w a0 a1 a2 a4 a5 a6 a7 a8 a9 a10 hw hwl d hd
    have ok := okR_bool (isLd d)
    generalize isLd d = bb at *
    generalize (dAnd (dIsi "str" (eVar 3)) (dAnd (dBin eqP (eVar 3) (dM "str" lowP (eVar 3) aNil)) (dCall F__law_leads (aCons (eVar 3) aNil)))) = FF at *
    simp -implicitDefEqProofs [e, ok]
  rw [x_sRet, sB_ok (bin_at A C (eq_selfS (sh_strs fun _ _ => ok_shb _)))]
end
theorem right_ok {n k : Nat} {h : Hd} {x : Cell} (hx : h[n]? = some x) (g : Gp k x) (hk : k ≤ 7000) : ∃ y, F__law_right [.c n] h = some (.ok (.t (.bool true)) (h.set n y)) ∧ Gp (k + 63) y := by
  obtain ⟨w0, y0, e0, a0, l0, g0⟩ := r_0 hx g (by omega)
  obtain ⟨w, y1, e1, a1, l1, g1⟩ := r_1 a0 l0 (set_at' (y := y0) hx) g0 (by omega)
  rw [List.set_set] at e1
  have hw : Rw w := ⟨a1, by omega⟩
  obtain ⟨L, hL⟩ := nf_ex (w := w) (by omega)
  obtain ⟨o3, o4, y2, e5, g2⟩ := r_5 hw l1 hL (set_at' (y := y1) hx) g1 (by omega)
  rw [List.set_set] at e5
  obtain ⟨o5, e6⟩ := @r_6 n (h.set n y2) w L o3 o4 hw l1 hL
  refine ⟨y2, ?_, g2.mono (by omega)⟩
  have e : g__law_right [some (.c n), none, none, none, none, none, none, none, none, none, none] h = some (.rt (.t (.bool true)), [some (.c n), some (.t (.str (tx w))), some (.t (.tuple (txs L))), o3, o4, o5, some (.t (.list (some3 w))), none, none, none, none], h.set n y2) := by
    unfold g__law_right
    rw [sSeq_nx e0, sSeq_nx e1, sSeq_nx (r_2 hw l1 hL), sSeq_nx (r_3 hw l1 hL), sSeq_nx (r_4 hw l1 hL), sSeq_nx e5, sSeq_nx e6, sSeq_nx (r_7 hw l1), r_8 hw l1]
  simp -implicitDefEqProofs [F__law_right, e, tk_set]
end Lw
set_option Elab.async false
set_option linter.all false
set_option maxRecDepth 100000
set_option maxHeartbeats 2000000
namespace Lw
open PySem PySem.Spec L2 DL
open PyProof.Rows hiding St
section
variable {h : Hd} {ns : List Int}
theorem turn_ok {hh : Hd} {i : Nat} {o2 : Option D} (hi : i ≤ 10) : ∃ S2 h2, (sSeq (sSet 2 (dCall F__law_pot (aCons (eVar 0) (aCons (eVar 1) aNil)))) (sIf (tNotD (dTru (dCW allP (aCons (dLc false (iRg1 (aCons (eC (.t (.int 4))) aNil)) (gN 3) tYesD (dCall F__law_right (aCons (eVar 2) aNil)) [3]) aNil)))) (sRet (eC (.t (.bool false)))) sNext)) [some (.s ns), some (.t (.int (i : Nat))), o2, none] hh = some (.nx, [some (.s ns), some (.t (.int (i : Nat))), S2, none], h2) := by
  obtain ⟨x, ep, gx⟩ := pot_ok ns i hi hh
  obtain ⟨ys, h', e2, l2, g2, _, k2⟩ := lc_inv (S := [some (.s ns), some (.t (.int (i : Nat))), some (.c hh.length), none]) (h := hh ++ [x]) (h' := hh ++ [x]) (m := iRg1 (aCons (eC (.t (.int 4))) aNil)) (f := gN 3) (t := tYesD) (e := dCall F__law_right (aCons (eVar 2) aNil)) (own := [3]) (xs := rngD 0 4)
    (fun j h1 => ∃ y, h1 = (hh ++ [x]).set hh.length y ∧ Gp (63 * j) y) (fun d => d = .bool true) (by simp -implicitDefEqProofs [show DL.inR 4 = true from rfl]) (by simp [rngD]) ⟨x, by rw [set_end], gx⟩ (by
      intro d hd j h1 acc hj hl1 ⟨z, ez, gz⟩
      have hj3 : j < 4 := by simpa [rngD] using hj
      have hx0 : (hh ++ [x])[hh.length]? = some x := by simp
      have hz : (h1 ++ [Cell.lst acc])[hh.length]? = some z := by
        rw [List.getElem?_append_left (by rw [ez]; simp), ez]
        exact set_at' hx0
      obtain ⟨y', e4, gy'⟩ := right_ok hz gz (by omega)
      have hs : (h1 ++ [Cell.lst acc]).set hh.length y' = (hh ++ [x]).set hh.length y' ++ [Cell.lst acc] := by
        rw [List.set_append_left _ _ (by rw [ez]; simp), ez, List.set_set]
      rw [hs] at e4
      refine ⟨.bool true, (hh ++ [x]).set hh.length y', ?_, rfl, ⟨y', rfl, gy'.mono (by omega)⟩, by simp⟩
      simp -implicitDefEqProofs [e4])
  have ta := trues g2
  refine ⟨some (.c hh.length), h', ?_⟩
  simp -implicitDefEqProofs [ep, e2, ta]
theorem lw_0 : ∃ S2 h2, (sFor (iAny (dCall F__law_cells (aCons (eVar 0) (aCons (eC (.t (.int 3))) aNil)))) (gN 1) (sSeq (sSet 2 (dCall F__law_pot (aCons (eVar 0) (aCons (eVar 1) aNil)))) (sIf (tNotD (dTru (dCW allP (aCons (dLc false (iRg1 (aCons (eC (.t (.int 4))) aNil)) (gN 3) tYesD (dCall F__law_right (aCons (eVar 2) aNil)) [3]) aNil)))) (sRet (eC (.t (.bool false)))) sNext))) [some (.s ns), none, none, none] h = some (.nx, S2, h2) := by
  obtain ⟨m, hm, ec⟩ := cells_ok ns h
  obtain ⟨S2, h2, e, _⟩ := forL_inv (f := gN 1) (b := (sSeq (sSet 2 (dCall F__law_pot (aCons (eVar 0) (aCons (eVar 1) aNil)))) (sIf (tNotD (dTru (dCW allP (aCons (dLc false (iRg1 (aCons (eC (.t (.int 4))) aNil)) (gN 3) tYesD (dCall F__law_right (aCons (eVar 2) aNil)) [3]) aNil)))) (sRet (eC (.t (.bool false)))) sNext))) (fun _ S _ => ∃ o2 o3, S = [some (.s ns), o2, o3, none]) (rngD 0 m) 0 [some (.s ns), none, none, none] h ⟨none, none, rfl⟩ (fun j x S hh hx ⟨o2, o3, hS⟩ => by
    subst hS
    obtain ⟨hj, rfl⟩ := rng_at hx
    obtain ⟨o, h2, e⟩ := @turn_ok ns hh j o3 (by omega)
    exact ⟨[some (.s ns), some (.t (.int (j : Nat))), o3, none], _, h2, by simp, e, _, _, rfl⟩)
  refine ⟨S2, h2, ?_⟩
  simp -implicitDefEqProofs [iAny, ec, e]
end
theorem law_true (ns : List Int) (h : ns.length ≤ 63) : F_law [.s ns] [] = some (.ok (.t (.bool true)) []) := by
  obtain ⟨S2, h3, e3⟩ := @lw_0 [] ns
  have e : g_law [some (.s ns), none, none, none] [] = some (.rt (.t (.bool true)), S2, h3) := by
    unfold g_law
    rw [sSeq_nx e3]
    simp -implicitDefEqProofs
  simp -implicitDefEqProofs [F_law, e]
end Lw
set_option Elab.async false
set_option linter.all false
set_option maxRecDepth 100000
set_option maxHeartbeats 0
namespace Lw
open PySem PySem.Spec L2 DL
open PyProof.Rows hiding St
theorem run (w : World) : HandSHeadRun.RunEq R (PySem.W.view R.prog [37]) hk ob 20000 loose w := by
  intro os
  kernel_rfl
theorem fin {P : Program} {w : World} {K : PySem.W.Frag} {h : Heap} {mg : Str → Option Value} {f : Addr} (X : K.In h) (G : h.Ns mainGlobals mg) (hfa : mg ("law" : Str) = some (.ref f)) (c : He.SaysD fa fn K) :
    ∃ (fd : FuncData) (F : List D → M D), (∀ (s : Shared) (u : Value), BindsTo s fd ⟨[u], []⟩ [(Str.ofString "script", u)]) ∧ (∀ ns : List Int, ns.length ≤ 63 → F [.s ns] [] = some (.ok (.t (.bool true)) [])) ∧ ∀ base : Heap, K.In base → base.Ns mainGlobals mg → FnG P w K mg base 10 f fd [Str.ofString "script"] F := by
  obtain ⟨fd0, F0⟩ := c.def_ 0 (d := dd "is_row_of" 7) rfl
  obtain ⟨fdf, T⟩ := Tx.of X G c fd0
  have e := hfa.symm.trans (m_law T)
  cases e
  have b := FunD.bindsA (ps := [Str.ofString "script"]) (T.d 27 (dd "law" 37) rfl) fun _ _ _ _ _ _ us hl => match us, hl with | [_], _ => rfl
  exact ⟨_, F_law, fun s u => b s [u] rfl, law_true, fun base _ _ => (ok_law T).mono (by decide)⟩
end Lw
open PySem PySem.W PySem.Calls PyProof.Rows
theorem PySem.Challenge.cw_everyrowhasit_k03_whole_rows_made_of_lea_holds : PySem.Challenge.rw_everyrowhasit_k03_whole_rows_made_of_lea.Holds := by
  w_on; o_law
  refine HandSHeadRun.head_any (r := OpenLaw.row PySem.Challenge.rw_everyrowhasit_k03_whole_rows_made_of_lea) (q := view (OpenLaw.row PySem.Challenge.rw_everyrowhasit_k03_whole_rows_made_of_lea).prog [37]) (H := Lw.hk) (ob := Lw.ob) (M := 20000) (loose := Lw.loose) (d := HandSHeadRun.topDef (OpenLaw.row PySem.Challenge.rw_everyrowhasit_k03_whole_rows_made_of_lea).prog 37) (kwd := []) Lw.ob_eq
    (by kernel_rfl) (fun s => by kernel_rfl) Lw.run (by kernel_rfl) (by kernel_rfl) (by kernel_rfl) (by rfl) (by first | assumption | decide +kernel) (by decide +kernel) ⟨rfl, rfl, rfl, rfl, rfl, by decide +kernel⟩ ?hw ?hc
  case hw => w_witness2
  case hc =>
    refine DL.walk_g (l := PySem.Challenge.rw_everyrowhasit_k03_whole_rows_made_of_lea) (n := 63) (k := 10) (x := PySem.Str.ofString "script") rfl (by decide) (by kernel_rfl) ⟨rfl, by decide, by decide⟩ ?T
    intro w mg fa h Y G hmg0
    obtain ⟨K, KX, c⟩ := Y
    have hmg : mg ("law" : PySem.Str) = some (.ref fa) := by
      have e : (HandSHeadRun.topDef (OpenLaw.row PySem.Challenge.rw_everyrowhasit_k03_whole_rows_made_of_lea).prog 37).name = ("law" : PySem.Str) := by kernel_rfl
      rw [← e]
      exact hmg0
    obtain ⟨fd, F, h1, h2, h3⟩ := Lw.fin (P := (PySem.Challenge.rw_everyrowhasit_k03_whole_rows_made_of_lea).prog) (w := w) KX G hmg c
    exact ⟨K, fd, F, KX, h1, h2, h3⟩
