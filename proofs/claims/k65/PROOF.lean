import PyProof.Rows.All
import Wide.All
import OpenK.AllK
import Wide.FinOn
import HandS.ForMost
import HandS.ForExc
import HandS.HeadHook1
import HandS.HeadHook2
import HandS.HeadEnd
import HandS.Defaults
import HandS.Wide
import HandS.WideBits
import HandS.StrMore
import HandS.Style
import HandS.IsInst
import HandS.TupAny
import HandS.TupLe
import HandS.More
import HandS.Codes
import HandS.SortInts
import HandS.Conv
import HandS.Zip
import KE.DataMinMax
import KE.SortData
import HandS.Rev
import KE.KRevSl
import PyProof.CollectStr
import HandS.ExcValue
import PyProof.Rows.SortShellAny
import KE.GoesZip
import KE.GoesMore
import KE.GoesEnum
import PyProof.EnumMake
import PyProof.MaxThree
import KE.KStateDown
import HandS.Ends
import HandS.Head0
import HandS.Head1
import HandS.Head2
import PySem.Challenge.RW_everyrowhasit_k65_whole_rows_nearly_in_o
import KE.KStrOpen
set_option Elab.async false
set_option linter.all false
set_option maxRecDepth 100000
set_option maxHeartbeats 2000000
set_option autoImplicit false
namespace DL
open PySem PySem.Spec L2
open PyProof.Rows hiding St

/-! values: trees, own mutable things by number, the script, what stands fixed -/
inductive D where
  | t (d : PyData)
  | c (n : Nat)
  | s (ns : List Int)
  | k (v : V)
inductive Cell where
  | lst (ds : List PyData)
  | gone (d : PyData)
def Cell.live : Cell → Bool
  | .lst _ => true
  | .gone _ => false
abbrev Hd := List Cell
abbrev DS := List (Option D)
def Lv (r : List Addr) (h : Hd) (a : Addr) : Prop := ∃ (n : Nat) (c : Cell), r[n]? = some a ∧ h[n]? = some c ∧ c.live = true

mutual
inductive TR (K : PySem.W.Frag) (L : Addr → Prop) (H : Hp) : V → PyData → Prop
  | non : TR K L H .non .none
  | bl (b : Bool) : TR K L H (.bl b) (.bool b)
  | int (i : Int) : TR K L H (.int i) (.int i)
  | str (x : Str) : TR K L H (.str x) (.str x)
  | lst {a : Addr} {xs : List V} {ds : List PyData} (e : H a = some (.lst xs)) (n : ¬ L a) (t : TRs K L H xs ds) : TR K L H (.ref a) (.list ds)
  | tup {a : Addr} {xs : List V} {ds : List PyData} (e : H a = some (.tup xs)) (n : ¬ L a) (t : TRs K L H xs ds) : TR K L H (.ref a) (.tuple ds)
inductive TRs (K : PySem.W.Frag) (L : Addr → Prop) (H : Hp) : List V → List PyData → Prop
  | nil : TRs K L H [] []
  | cons {v : V} {vs : List V} {d : PyData} {ds : List PyData} : TR K L H v d → TRs K L H vs ds → TRs K L H (v :: vs) (d :: ds)
end

section
variable {K : PySem.W.Frag} {L L' : Addr → Prop} {H H' : Hp}
mutual
theorem TR.mono (k : ∀ a o, H a = some o → ¬ L a → H' a = some o ∧ ¬ L' a) : ∀ (d : PyData) (v : V), TR K L H v d → TR K L' H' v d
  | .none, _, h => by cases h; exact .non
  | .bool b, _, h => by cases h; exact .bl b
  | .int i, _, h => by cases h; exact .int i
  | .str x, _, h => by cases h; exact .str x
  | .list ds, _, h => by
    cases h with
    | lst e n t => exact .lst (k _ _ e n).1 (k _ _ e n).2 (TRs.mono k ds _ t)
  | .tuple ds, _, h => by
    cases h with
    | tup e n t => exact .tup (k _ _ e n).1 (k _ _ e n).2 (TRs.mono k ds _ t)
  | .dict kvs, _, h => by cases h
theorem TRs.mono (k : ∀ a o, H a = some o → ¬ L a → H' a = some o ∧ ¬ L' a) : ∀ (ds : List PyData) (vs : List V), TRs K L H vs ds → TRs K L' H' vs ds
  | [], _, h => by cases h; exact .nil
  | d :: ds, _, h => by
    cases h with
    | cons a b => exact .cons (TR.mono k d _ a) (TRs.mono k ds _ b)
end
theorem TRs.length : ∀ {vs : List V} {ds : List PyData}, TRs K L H vs ds → vs.length = ds.length
  | _, [], h => by cases h; rfl
  | _, d :: ds, h => by
    cases h with
    | cons a b => simp [TRs.length b]
theorem TRs.get : ∀ {vs : List V} {ds : List PyData} {i : Nat} {d : PyData}, TRs K L H vs ds → ds[i]? = some d → ∃ v, vs[i]? = some v ∧ TR K L H v d
  | _, [], _, _, h, e => by simp at e
  | _, d :: ds, 0, d', h, e => by
    cases h with
    | cons a b => simp at e; subst e; exact ⟨_, rfl, a⟩
  | _, d :: ds, i + 1, d', h, e => by
    cases h with
    | cons a b =>
      obtain ⟨v, h1, h2⟩ := TRs.get (i := i) b (by simpa using e)
      exact ⟨v, by simpa using h1, h2⟩
theorem TRs.getV : ∀ {vs : List V} {ds : List PyData} {i : Nat} {v : V}, TRs K L H vs ds → vs[i]? = some v → ∃ d, ds[i]? = some d ∧ TR K L H v d := by
  intro vs ds i v h e
  have hl := h.length
  have hi : i < vs.length := by
    rcases Nat.lt_or_ge i vs.length with q | q
    · exact q
    · rw [List.getElem?_eq_none q] at e; cases e
  obtain ⟨v', e1, e2⟩ := h.get (i := i) (d := ds[i]'(by omega)) (List.getElem?_eq_getElem (by omega))
  rw [e1] at e
  cases e
  exact ⟨_, List.getElem?_eq_getElem (by omega), e2⟩
theorem TRs.append : ∀ {vs ws : List V} {ds es : List PyData}, TRs K L H vs ds → TRs K L H ws es → TRs K L H (vs ++ ws) (ds ++ es)
  | _, _, [], _, h, g => by cases h; exact g
  | _, _, d :: ds, _, h, g => by
    cases h with
    | cons a b => exact .cons a (TRs.append b g)
theorem TRs.drop : ∀ (n : Nat) {vs : List V} {ds : List PyData}, TRs K L H vs ds → TRs K L H (vs.drop n) (ds.drop n)
  | 0, _, _, h => h
  | n + 1, _, [], h => by cases h; exact .nil
  | n + 1, _, d :: ds, h => by
    cases h with
    | cons a b => exact TRs.drop n b
theorem TRs.take : ∀ (n : Nat) {vs : List V} {ds : List PyData}, TRs K L H vs ds → TRs K L H (vs.take n) (ds.take n)
  | 0, _, _, h => .nil
  | n + 1, _, [], h => by cases h; exact .nil
  | n + 1, _, d :: ds, h => by
    cases h with
    | cons a b => exact .cons a (TRs.take n b)
theorem TRs.set : ∀ {vs : List V} {ds : List PyData} (i : Nat) {v : V} {d : PyData}, TRs K L H vs ds → TR K L H v d → TRs K L H (vs.set i v) (ds.set i d)
  | _, [], _, _, _, h, _ => by cases h; exact .nil
  | _, d :: ds, 0, _, _, h, r => by
    cases h with
    | cons a b => exact .cons r b
  | _, d :: ds, i + 1, _, _, h, r => by
    cases h with
    | cons a b => exact .cons a (TRs.set i b r)
theorem TRs.reverse : ∀ {vs : List V} {ds : List PyData}, TRs K L H vs ds → TRs K L H vs.reverse ds.reverse
  | _, [], h => by cases h; exact .nil
  | _, d :: ds, h => by
    cases h with
    | cons a b =>
      rw [List.reverse_cons, List.reverse_cons]
      exact (TRs.reverse b).append (.cons a .nil)
theorem TRs.rep {vs : List V} {ds : List PyData} (h : TRs K L H vs ds) : ∀ k : Nat, TRs K L H (List.replicate k vs).flatten (List.replicate k ds).flatten
  | 0 => .nil
  | k + 1 => by
    rw [List.replicate_succ, List.replicate_succ, List.flatten_cons, List.flatten_cons]
    exact h.append (TRs.rep h k)
/-- what is read: the list itself may be a live one -/
def WR (K : PySem.W.Frag) (L : Addr → Prop) (H : Hp) (v : V) : PyData → Prop
  | .list ds => ∃ a xs, v = .ref a ∧ H a = some (.lst xs) ∧ TRs K L H xs ds
  | d => TR K L H v d
theorem TR.w {v : V} {d : PyData} (h : TR K L H v d) : WR K L H v d := by
  cases h with
  | lst e n t => exact ⟨_, _, rfl, e, t⟩
  | non => exact .non
  | bl b => exact .bl b
  | int i => exact .int i
  | str x => exact .str x
  | tup e n t => exact .tup e n t
mutual
theorem TR.dp : ∀ (d : PyData) (v : V), TR K L H v d → Dp K H v d
  | .none, _, h => by cases h; exact .non
  | .bool b, _, h => by cases h; exact .bl b
  | .int i, _, h => by cases h; exact .int i
  | .str x, _, h => by cases h; exact .str x
  | .list ds, _, h => by
    cases h with
    | lst e n t => exact .lst (SqL.of e) (TRs.dp ds _ t)
  | .tuple ds, _, h => by
    cases h with
    | tup e n t => exact .tup (SqT.of e) (TRs.dp ds _ t)
  | .dict kvs, _, h => by cases h
theorem TRs.dp : ∀ (ds : List PyData) (vs : List V), TRs K L H vs ds → DpAll K H vs ds
  | [], _, h => by cases h; exact .nil
  | d :: ds, _, h => by
    cases h with
    | cons a b => exact .cons (TR.dp d _ a) (TRs.dp ds _ b)
end
theorem WR.dp {v : V} {d : PyData} (h : WR K L H v d) : Dp K H v d := by
  cases d with
  | list ds => obtain ⟨a, xs, rfl, e, t⟩ := h; exact .lst (SqL.of e) (TRs.dp _ _ t)
  | _ => exact TR.dp _ _ h
end

/-- a list of the written part (never changed) -/
def KL (K : PySem.W.Frag) (a : Addr) (xs : List V) : Prop :=
  ∃ (o : Obj) (its : Array Value) (n : Nat), K.lookup a = some o ∧ o.cls = .type "list" ∧ o.dict = none ∧ o.data = .seq its n ∧ its.size ≤ sizeLine ∧ Vals xs its.toList
/-- the script -/
def ScR (K : PySem.W.Frag) (L : Addr → Prop) (H : Hp) (a : Addr) (ns : List Int) : Prop := (Rd H a (.lst (ns.map V.int)) ∧ ¬ L a) ∨ KL K a (ns.map V.int)
theorem ScR.sql {K : PySem.W.Frag} {L : Addr → Prop} {H : Hp} {a : Addr} {ns : List Int} (h : ScR K L H a ns) : SqL K H a (ns.map V.int) := by
  rcases h with h | h
  · exact .inl h.1
  · exact .inr h
theorem ScR.mono {K : PySem.W.Frag} {L L' : Addr → Prop} {H H' : Hp} {a : Addr} {ns : List Int} (k : ∀ a o, H a = some o → ¬ L a → H' a = some o ∧ ¬ L' a) (h : ScR K L H a ns) : ScR K L' H' a ns := by
  rcases h with ⟨h, n⟩ | h
  · rcases h with h | ⟨o, h⟩
    · exact .inl ⟨.inl (k _ _ h n).1, (k _ _ h n).2⟩
    · exact .inl ⟨.inr ⟨o, (k _ _ h n).1⟩, (k _ _ h n).2⟩
  · exact .inr h

def DR (K : PySem.W.Frag) (r : List Addr) (h : Hd) (H : Hp) : D → V → Prop
  | .t d, v => TR K (Lv r h) H v d
  | .c n, v => ∃ a, r[n]? = some a ∧ v = .ref a
  | .s ns, v => ∃ a, v = .ref a ∧ ScR K (Lv r h) H a ns
  | .k u, v => v = u

inductive DRs (K : PySem.W.Frag) (r : List Addr) (h : Hd) (H : Hp) : List D → List V → Prop
  | nil : DRs K r h H [] []
  | cons {d : D} {ds : List D} {v : V} {vs : List V} : DR K r h H d v → DRs K r h H ds vs → DRs K r h H (d :: ds) (v :: vs)

def CellR (K : PySem.W.Frag) (L : Addr → Prop) (H : Hp) (a : Addr) : Cell → Prop
  | .lst ds => ∃ xs, H a = some (.lst xs) ∧ TRs K L H xs ds
  | .gone d => TR K L H (.ref a) d

structure Rel (K : PySem.W.Frag) (r : List Addr) (S : DS) (h : Hd) (s : St) (H : Hp) : Prop where
  nd : r.Nodup
  len : r.length = h.length
  cell : ∀ (n : Nat) (c : Cell) (a : Addr), h[n]? = some c → r[n]? = some a → CellR K (Lv r h) H a c
  slen : S.length = s.length
  slot : ∀ (i : Nat) (d : D), S[i]? = some (some d) → ∃ v, s[i]? = some (some v) ∧ DR K r h H d v

structure Ext (r : List Addr) (h : Hd) (H : Hp) (r' : List Addr) (h' : Hd) (H' : Hp) : Prop where
  pre : ∃ e, r' = r ++ e
  keep : ∀ a o, H a = some o → ¬ Lv r h a → H' a = some o ∧ ¬ Lv r' h' a
  new : ∀ a o, H a = some o → a ∉ r → a ∉ r'

theorem Lv.mem {r : List Addr} {h : Hd} {a : Addr} (l : Lv r h a) : a ∈ r := by
  obtain ⟨n, c, e, _⟩ := l
  exact List.mem_of_getElem? e
def Grow (H H' : Hp) : Prop := ∀ a o, H a = some o → H' a = some o
theorem Grow.refl {H : Hp} : Grow H H := fun _ _ e => e
theorem Grow.upd {H : Hp} {p : Addr} {o : HO} (n : H p = none) : Grow H (upd H p o) := fun a u e => by
  rw [upd_ne (ne_of_none e n)]; exact e
theorem Grow.trans {H H1 H2 : Hp} (a : Grow H H1) (b : Grow H1 H2) : Grow H H2 := fun x o e => b x o (a x o e)

section
variable {K : PySem.W.Frag} {r r1 r2 : List Addr} {S : DS} {h h1 h2 : Hd} {s : St} {H H1 H2 : Hp}
theorem Ext.refl : Ext r h H r h H := ⟨⟨[], by simp⟩, fun _ _ e n => ⟨e, n⟩, fun _ _ _ n => n⟩
theorem Ext.trans (a : Ext r h H r1 h1 H1) (b : Ext r1 h1 H1 r2 h2 H2) : Ext r h H r2 h2 H2 := by
  obtain ⟨e1, p1⟩ := a.pre
  obtain ⟨e2, p2⟩ := b.pre
  exact ⟨⟨e1 ++ e2, by rw [p2, p1, List.append_assoc]⟩, fun x o e n => b.keep x o (a.keep x o e n).1 (a.keep x o e n).2, fun x o e n => b.new x o (a.keep x o e fun l => n l.mem).1 (a.new x o e n)⟩
theorem Ext.grow (g : Grow H H1) : Ext r h H r h H1 := ⟨⟨[], by simp⟩, fun a o e n => ⟨g a o e, n⟩, fun _ _ _ n => n⟩
theorem DR.ext {d : D} {v : V} (x : DR K r h H d v) (e : Ext r h H r1 h1 H1) : DR K r1 h1 H1 d v := by
  cases d with
  | t d => exact TR.mono e.keep d v x
  | c n =>
    obtain ⟨a, q, rfl⟩ := x
    obtain ⟨f, p⟩ := e.pre
    refine ⟨a, ?_, rfl⟩
    rw [p, List.getElem?_append_left]
    · exact q
    · exact (List.getElem?_eq_some_iff.mp q).1
  | s ns =>
    obtain ⟨a, rfl, q⟩ := x
    exact ⟨a, rfl, q.mono e.keep⟩
  | k u => exact x
theorem DRs.ext {ds : List D} {vs : List V} (x : DRs K r h H ds vs) (e : Ext r h H r1 h1 H1) : DRs K r1 h1 H1 ds vs := by
  induction x with
  | nil => exact .nil
  | cons a _ ih => exact .cons (a.ext e) ih
theorem Rel.grow (R : Rel K r S h s H) (g : Grow H H1) : Rel K r S h s H1 where
  nd := R.nd
  len := R.len
  cell := fun n c a e q => by
    have := R.cell n c a e q
    cases c with
    | lst ds =>
      obtain ⟨xs, e1, e2⟩ := this
      exact ⟨xs, g _ _ e1, TRs.mono (fun a o e n => ⟨g a o e, n⟩) _ _ e2⟩
    | gone d => exact TR.mono (fun a o e n => ⟨g a o e, n⟩) _ _ this
  slen := R.slen
  slot := fun i d e => by
    obtain ⟨v, e1, e2⟩ := R.slot i d e
    exact ⟨v, e1, e2.ext (Ext.grow g)⟩
/-- live ones are tracked -/
theorem Rel.lv (R : Rel K r S h s H) {a : Addr} (l : Lv r h a) : ∃ o, H a = some o := by
  obtain ⟨n, c, e1, e2, e3⟩ := l
  have := R.cell n c a e2 e1
  cases c with
  | lst ds => obtain ⟨xs, e, _⟩ := this; exact ⟨_, e⟩
  | gone d => cases e3
theorem Rel.fresh (R : Rel K r S h s H) {p : Addr} (n : H p = none) : ¬ Lv r h p := fun l => by
  obtain ⟨o, e⟩ := R.lv l
  rw [n] at e; cases e
theorem Rel.fresh2 (R : Rel K r S h s H) {p : Addr} (n : H p = none) : p ∉ r := fun m => by
  obtain ⟨i, hi, e⟩ := List.getElem_of_mem m
  have hl : i < h.length := by rw [← R.len]; exact hi
  have := R.cell i h[i] p (List.getElem?_eq_getElem hl) (by rw [List.getElem?_eq_getElem hi, e])
  cases q : h[i] with
  | lst ds => rw [q] at this; obtain ⟨xs, e, _⟩ := this; rw [n] at e; cases e
  | gone d =>
    rw [q] at this
    cases this with
    | lst e _ _ => rw [n] at e; cases e
    | tup e _ _ => rw [n] at e; cases e
/-- a slot is stored -/
theorem Rel.set (R : Rel K r S h s H) (i : Nat) {d : D} {v : V} (x : DR K r h H d v) : Rel K r (S.set i (some d)) h (s.set i (some v)) H where
  nd := R.nd
  len := R.len
  cell := R.cell
  slen := by rw [List.length_set, List.length_set]; exact R.slen
  slot := fun j d' e => by
    by_cases hij : i = j
    · subst hij
      by_cases hl : i < S.length
      · rw [List.getElem?_set_self hl] at e
        cases e
        exact ⟨v, by rw [List.getElem?_set_self (by rw [← R.slen]; exact hl)], x⟩
      · rw [List.getElem?_eq_none (by simpa using hl)] at e
        cases e
    · rw [List.getElem?_set_ne hij] at e
      obtain ⟨w, e1, e2⟩ := R.slot j d' e
      exact ⟨w, by rw [List.getElem?_set_ne hij]; exact e1, e2⟩
end

/-! the small monad -/
inductive Res (α : Type) where
  | ok (a : α) (h : Hd)
  | err (c : Str) (p : D) (h : Hd)
abbrev M (α : Type) := Hd → Option (Res α)
def ret {α : Type} (a : α) : M α := fun h => some (.ok a h)
def bd {α β : Type} (m : M α) (f : α → M β) : M β := fun h => match m h with
  | some (.ok a h') => f a h'
  | some (.err c p h') => some (.err c p h')
  | none => none
def fail {α : Type} : M α := fun _ => none
def opt {α : Type} (o : Option α) : M α := fun h => match o with
  | some a => some (.ok a h)
  | none => none
/-- what is wished of an error -/
abbrev EW := Str → D → List Addr → Hd → St → Hp → Prop
def Post {α : Type} (K : PySem.W.Frag) (WE : EW) (r : List Addr) (S : DS) (h : Hd) (s : St) (H : Hp) (m : Option (Res α)) (G : α → List Addr → Hd → Hp → Prop) : Prop := match m with
  | none => False
  | some (.ok a h') => ∀ r' H', Rel K r' S h' s H' → Ext r h H r' h' H' → G a r' h' H'
  | some (.err c p h') => ∀ r' H', Rel K r' S h' s H' → Ext r h H r' h' H' → WE c p r' h' s H'
section
variable {α β : Type} {K : PySem.W.Frag} {WE : EW} {r r1 : List Addr} {S : DS} {h h1 : Hd} {s : St} {H H1 : Hp}
theorem Post.mono {m : Option (Res α)} {G G' : α → List Addr → Hd → Hp → Prop} (p : Post K WE r S h s H m G) (g : ∀ a r' h' H', Rel K r' S h' s H' → Ext r h H r' h' H' → G a r' h' H' → G' a r' h' H') : Post K WE r S h s H m G' := by
  cases m with
  | none => exact p
  | some x => cases x with
    | ok a h' => exact fun r' H' R E => g a r' h' H' R E (p r' H' R E)
    | err c q h' => exact p
theorem Post.bd {m : M α} {f : α → M β} {G : β → List Addr → Hd → Hp → Prop} (p : Post K WE r S h s H (bd m f h) G) : Post K WE r S h s H (m h) (fun a r1 h1 H1 => Post K WE r1 S h1 s H1 (f a h1) G) := by
  unfold DL.bd at p
  cases e : m h with
  | none => rw [e] at p; exact p
  | some x => cases x with
    | ok a h' =>
      rw [e] at p
      intro r' H' R E
      have p' : Post K WE r S h s H (f a h') G := p
      cases e2 : f a h' with
      | none => rw [e2] at p'; exact p'
      | some y => cases y with
        | ok b h2 =>
          rw [e2] at p'
          exact fun r2 H2 R2 E2 => p' r2 H2 R2 (E.trans E2)
        | err c q h2 =>
          rw [e2] at p'
          exact fun r2 H2 R2 E2 => p' r2 H2 R2 (E.trans E2)
    | err c q h' => rw [e] at p; exact p
theorem Post.opt {o : Option α} {G : α → List Addr → Hd → Hp → Prop} (R : Rel K r S h s H) (p : Post K WE r S h s H (opt o h) G) : ∃ a, o = some a ∧ G a r h H := by
  cases o with
  | none => exact False.elim p
  | some a => exact ⟨a, rfl, p r H R .refl⟩
theorem Post.ret {a : α} {G : α → List Addr → Hd → Hp → Prop} (R : Rel K r S h s H) (p : Post K WE r S h s H (ret a h) G) : G a r h H := p r H R .refl
/-- the state has moved on -/
theorem Post.at {m : Option (Res α)} {G : α → List Addr → Hd → Hp → Prop} (p : Post K WE r S h s H m G) (E : Ext r h H r1 h H1) : Post K WE r1 S h s H1 m G := by
  cases m with
  | none => exact p
  | some x => cases x with
    | ok a h' => exact fun r' H' R E2 => p r' H' R (E.trans E2)
    | err c q h' => exact fun r' H' R E2 => p r' H' R (E.trans E2)
end
end DL
set_option Elab.async false
set_option linter.all false
set_option maxRecDepth 100000
set_option maxHeartbeats 2000000
set_option autoImplicit false
namespace DL
open PySem PySem.Spec L2
open PyProof.Rows hiding St

/-! judgements -/
def tD (K : PySem.W.Frag) (WE : EW) (m : DS → M D) : TE := fun s H Q => ∃ r S h, Rel K r S h s H ∧ Post K WE r S h s H (m S h) (fun d r' h' H' => ∀ v, DR K r' h' H' d v → Q v H')
def tDA (K : PySem.W.Frag) (WE : EW) (m : DS → M (List D)) : TA := fun s H Q => ∃ r S h, Rel K r S h s H ∧ Post K WE r S h s H (m S h) (fun ds r' h' H' => ∀ vs, DRs K r' h' H' ds vs → Q vs H')
def tDT (K : PySem.W.Frag) (WE : EW) (m : DS → M Bool) : TT := fun s H Q => ∃ r S h, Rel K r S h s H ∧ Post K WE r S h s H (m S h) (fun b r' h' H' => Q b H')
def DE (X : Cx) (WE : EW) (e : Expr) (m : DS → M D) : Prop := PE X e (tD X.K WE m)
def DA (X : Cx) (WE : EW) (es : List Expr) (m : DS → M (List D)) : Prop := PA X es (tDA X.K WE m)
def DT (X : Cx) (WE : EW) (e : Expr) (m : DS → M Bool) : Prop := PT X e (tDT X.K WE m)
def DW (X : Cx) (WE : EW) (e : Expr) (m : DS → M Bool) : Prop := PW X e (tDT X.K WE m)
theorem PE.imp {X : Cx} {e : Expr} {t t' : TE} (p : PE X e t) (i : ∀ s H Q, t' s H Q → t s H Q) : PE X e t' := ⟨fun a b c d Q I q => p.run a b c d Q I (i _ _ _ q)⟩
theorem PT.imp {X : Cx} {e : Expr} {t t' : TT} (p : PT X e t) (i : ∀ s H Q, t' s H Q → t s H Q) : PT X e t' := ⟨fun a b c d Q I q => p.run a b c d Q I (i _ _ _ q)⟩
theorem PW.imp {X : Cx} {e : Expr} {t t' : TT} (p : PW X e t) (i : ∀ s H Q, t' s H Q → t s H Q) : PW X e t' := ⟨fun w a b c d Q I q => p.run w a b c d Q I (i _ _ _ q)⟩
theorem PA.imp {X : Cx} {es : List Expr} {t t' : TA} (p : PA X es t) (i : ∀ s H Q, t' s H Q → t s H Q) : PA X es t' := ⟨fun z a b c d Q I q => p.run z a b c d Q I (i _ _ _ q)⟩

/-! reading a value -/
def rd : D → M PyData
  | .t d => ret d
  | .c n => fun h => match h[n]? with
    | some (.lst ds) => some (.ok (.list ds) h)
    | some (.gone d) => some (.ok d h)
    | none => none
  | _ => fail
def rds : List D → M (List PyData)
  | [] => ret []
  | d :: ds => bd (rd d) fun x => bd (rds ds) fun xs => ret (x :: xs)
/-- a value that is kept within another: a live list is let go -/
def fz : D → M PyData
  | .t d => ret d
  | .c n => fun h => match h[n]? with
    | some (.lst ds) => some (.ok (.list ds) (h.set n (.gone (.list ds))))
    | some (.gone d) => some (.ok d h)
    | none => none
  | _ => fail
def fzs : List D → M (List PyData)
  | [] => ret []
  | d :: ds => bd (fz d) fun x => bd (fzs ds) fun xs => ret (x :: xs)
/-- a new list: live, or a tree -/
def mk (c : Bool) (ds : List PyData) : M D := match c with
  | true => fun h => some (.ok (.c h.length) (h ++ [.lst ds]))
  | false => ret (.t (.list ds))
inductive WRs (K : PySem.W.Frag) (L : Addr → Prop) (H : Hp) : List V → List PyData → Prop
  | nil : WRs K L H [] []
  | cons {v : V} {vs : List V} {d : PyData} {ds : List PyData} : WR K L H v d → WRs K L H vs ds → WRs K L H (v :: vs) (d :: ds)

theorem nd_inj : ∀ {l : List Addr} {i j : Nat} {a : Addr}, l.Nodup → l[i]? = some a → l[j]? = some a → i = j
  | [], _, _, _, _, h, _ => by simp at h
  | x :: l, 0, 0, _, _, _, _ => rfl
  | x :: l, 0, j + 1, a, nd, h, g => by
    simp at h g
    subst h
    exact absurd (List.mem_of_getElem? g) (List.nodup_cons.mp nd).1
  | x :: l, i + 1, 0, a, nd, h, g => by
    simp at h g
    subst g
    exact absurd (List.mem_of_getElem? h) (List.nodup_cons.mp nd).1
  | x :: l, i + 1, j + 1, a, nd, h, g => by
    simp at h g
    rw [nd_inj (List.nodup_cons.mp nd).2 h g]
section
variable {K : PySem.W.Frag} {WE : EW} {r : List Addr} {S : DS} {h : Hd} {s : St} {H : Hp}
theorem rd_ok {d : D} {v : V} {G : PyData → List Addr → Hd → Hp → Prop} (R : Rel K r S h s H) (x : DR K r h H d v) (p : Post K WE r S h s H (rd d h) G) : ∃ z, WR K (Lv r h) H v z ∧ G z r h H := by
  cases d with
  | t d => exact ⟨d, TR.w x, p r H R .refl⟩
  | c n =>
    obtain ⟨a, q, rfl⟩ := x
    unfold rd at p
    cases e : h[n]? with
    | none => simp only [e] at p; exact False.elim p
    | some c =>
      have cr := R.cell n c a e q
      cases c with
      | lst ds =>
        simp only [e] at p
        obtain ⟨xs, e1, e2⟩ := cr
        exact ⟨.list ds, ⟨a, xs, rfl, e1, e2⟩, p r H R .refl⟩
      | gone d =>
        simp only [e] at p
        exact ⟨d, TR.w cr, p r H R .refl⟩
  | s ns => exact False.elim p
  | k u => exact False.elim p
theorem rds_ok : ∀ {ds : List D} {vs : List V} {G : List PyData → List Addr → Hd → Hp → Prop}, Rel K r S h s H → DRs K r h H ds vs → Post K WE r S h s H (rds ds h) G → ∃ zs, WRs K (Lv r h) H vs zs ∧ G zs r h H
  | [], _, G, R, x, p => by cases x; exact ⟨[], .nil, p r H R .refl⟩
  | d :: ds, _, G, R, x, p => by
    cases x with
    | cons a b =>
      obtain ⟨z, z1, z2⟩ := rd_ok R a p.bd
      obtain ⟨zs, z3, z4⟩ := rds_ok R b z2.bd
      exact ⟨z :: zs, .cons z1 z3, z4.ret R⟩
/-- a live list is let go -/
theorem Rel.letgo (R : Rel K r S h s H) {n : Nat} {ds : List PyData} {a : Addr} (e : h[n]? = some (.lst ds)) (q : r[n]? = some a) :
    Rel K r S (h.set n (.gone (.list ds))) s H ∧ Ext r h H r (h.set n (.gone (.list ds))) H ∧ TR K (Lv r (h.set n (.gone (.list ds)))) H (.ref a) (.list ds) := by
  have hn : n < h.length := (List.getElem?_eq_some_iff.mp e).1
  have sub : ∀ b, Lv r (h.set n (.gone (.list ds))) b → Lv r h b := by
    rintro b ⟨m, c, m1, m2, m3⟩
    by_cases hm : n = m
    · subst hm
      rw [List.getElem?_set_self hn] at m2
      cases m2; cases m3
    · rw [List.getElem?_set_ne hm] at m2
      exact ⟨m, c, m1, m2, m3⟩
  have na : ¬ Lv r (h.set n (.gone (.list ds))) a := by
    rintro ⟨m, c, m1, m2, m3⟩
    have hr : n < r.length := by rw [R.len]; exact hn
    have em : m = n := nd_inj R.nd m1 q
    subst em
    rw [List.getElem?_set_self hn] at m2
    cases m2; cases m3
  have E : Ext r h H r (h.set n (.gone (.list ds))) H := ⟨⟨[], by simp⟩, fun b o e nl => ⟨e, fun l => nl (sub b l)⟩, fun _ _ _ n => n⟩
  obtain ⟨xs, x1, x2⟩ := R.cell n _ a e q
  have T : TR K (Lv r (h.set n (.gone (.list ds)))) H (.ref a) (.list ds) := .lst x1 na (TRs.mono E.keep _ _ x2)
  refine ⟨⟨R.nd, by rw [R.len, List.length_set], fun m c b e' q' => ?_, R.slen, fun i d e' => ?_⟩, E, T⟩
  · by_cases hm : n = m
    · subst hm
      rw [List.getElem?_set_self hn] at e'
      cases e'
      rw [q] at q'; cases q'
      exact T
    · rw [List.getElem?_set_ne hm] at e'
      have cr := R.cell m c b e' q'
      cases c with
      | lst es => obtain ⟨ys, y1, y2⟩ := cr; exact ⟨ys, y1, TRs.mono E.keep _ _ y2⟩
      | gone d => exact TR.mono E.keep _ _ cr
  · obtain ⟨v, v1, v2⟩ := R.slot i d e'
    exact ⟨v, v1, v2.ext E⟩
theorem fz_ok {d : D} {v : V} {G : PyData → List Addr → Hd → Hp → Prop} (R : Rel K r S h s H) (x : DR K r h H d v) (p : Post K WE r S h s H (fz d h) G) :
    ∃ z h', Rel K r S h' s H ∧ Ext r h H r h' H ∧ TR K (Lv r h') H v z ∧ G z r h' H := by
  cases d with
  | t d => exact ⟨d, h, R, .refl, x, p r H R .refl⟩
  | c n =>
    obtain ⟨a, q, rfl⟩ := x
    unfold fz at p
    cases e : h[n]? with
    | none => simp only [e] at p; exact False.elim p
    | some c =>
      cases c with
      | lst ds =>
        simp only [e] at p
        obtain ⟨R', E', T⟩ := R.letgo e q
        exact ⟨.list ds, _, R', E', T, p r H R' E'⟩
      | gone d =>
        simp only [e] at p
        exact ⟨d, h, R, .refl, R.cell n _ a e q, p r H R .refl⟩
  | s ns => exact False.elim p
  | k u => exact False.elim p
theorem fzs_ok : ∀ {ds : List D} {vs : List V} {h : Hd} {G : List PyData → List Addr → Hd → Hp → Prop}, Rel K r S h s H → DRs K r h H ds vs → Post K WE r S h s H (fzs ds h) G →
    ∃ zs h', Rel K r S h' s H ∧ Ext r h H r h' H ∧ TRs K (Lv r h') H vs zs ∧ G zs r h' H
  | [], _, h, G, R, x, p => by cases x; exact ⟨[], h, R, .refl, .nil, p r H R .refl⟩
  | d :: ds, _, h, G, R, x, p => by
    cases x with
    | cons a b =>
      obtain ⟨z, h1, R1, E1, z1, z2⟩ := fz_ok R a p.bd
      obtain ⟨zs, h2, R2, E2, z3, z4⟩ := fzs_ok R1 (b.ext E1) z2.bd
      exact ⟨z :: zs, h2, R2, E1.trans E2, .cons (TR.mono E2.keep _ _ z1) z3, z4.ret R2⟩
/-- a new list is laid -/
theorem Rel.alloc {p : Addr} {vs : List V} {ds : List PyData} (R : Rel K r S h s H) (t : TRs K (Lv r h) H vs ds) (n : H p = none) :
    Rel K (r ++ [p]) S (h ++ [.lst ds]) s (upd H p (.lst vs)) ∧ Ext r h H (r ++ [p]) (h ++ [.lst ds]) (upd H p (.lst vs)) := by
  have g : Grow H (upd H p (.lst vs)) := Grow.upd n
  have np2 := R.fresh2 n
  have lv : ∀ b, Lv (r ++ [p]) (h ++ [.lst ds]) b → Lv r h b ∨ b = p := by
    rintro b ⟨m, c, m1, m2, m3⟩
    by_cases hm : m < h.length
    · rw [List.getElem?_append_left hm] at m2
      rw [List.getElem?_append_left (by rw [R.len]; exact hm)] at m1
      exact .inl ⟨m, c, m1, m2, m3⟩
    · rw [List.getElem?_append_right (by rw [R.len]; omega)] at m1
      have hm2 : m - r.length = 0 := by
        rcases Nat.eq_zero_or_pos (m - r.length) with z | z
        · exact z
        · rw [List.getElem?_eq_none (by simp; omega)] at m1; cases m1
      rw [hm2] at m1
      simp at m1
      exact .inr m1.symm
  have E : Ext r h H (r ++ [p]) (h ++ [.lst ds]) (upd H p (.lst vs)) := ⟨⟨[p], rfl⟩, fun b o e nl => ⟨g b o e, fun l => by
    rcases lv b l with l | l
    · exact nl l
    · subst l; rw [n] at e; cases e⟩, fun b o e nb => by
      intro m
      rcases List.mem_append.mp m with m | m
      · exact nb m
      · simp at m; subst m; rw [n] at e; cases e⟩
  refine ⟨⟨?_, by simp [R.len], fun m c b e' q' => ?_, R.slen, fun i d e' => ?_⟩, E⟩
  · exact List.nodup_append.mpr ⟨R.nd, by simp, fun a ha b hb => by
      simp at hb; subst hb; intro z; subst z; exact np2 ha⟩
  · by_cases hm : m < h.length
    · rw [List.getElem?_append_left hm] at e'
      rw [List.getElem?_append_left (by rw [R.len]; exact hm)] at q'
      have cr := R.cell m c b e' q'
      cases c with
      | lst es =>
        obtain ⟨ys, y1, y2⟩ := cr
        exact ⟨ys, g _ _ y1, TRs.mono E.keep _ _ y2⟩
      | gone d => exact TR.mono E.keep _ _ cr
    · rw [List.getElem?_append_right (by omega)] at e'
      rw [List.getElem?_append_right (by rw [R.len]; omega)] at q'
      have hm2 : m - h.length = 0 := by
        rcases Nat.eq_zero_or_pos (m - h.length) with z | z
        · exact z
        · rw [List.getElem?_eq_none (by simp; omega)] at e'; cases e'
      rw [hm2] at e'
      rw [show m - r.length = 0 by rw [R.len]; exact hm2] at q'
      simp at e' q'
      subst e'; subst q'
      exact ⟨vs, upd_same, TRs.mono E.keep _ _ t⟩
  · obtain ⟨v, v1, v2⟩ := R.slot i d e'
    exact ⟨v, v1, v2.ext E⟩
theorem mk_ok {c : Bool} {p : Addr} {vs : List V} {ds : List PyData} {G : D → List Addr → Hd → Hp → Prop} (R : Rel K r S h s H) (t : TRs K (Lv r h) H vs ds) (n : H p = none) (q : Post K WE r S h s H (mk c ds h) G) :
    ∃ d r' h', Rel K r' S h' s (upd H p (.lst vs)) ∧ Ext r h H r' h' (upd H p (.lst vs)) ∧ DR K r' h' (upd H p (.lst vs)) d (.ref p) ∧ G d r' h' (upd H p (.lst vs)) := by
  have g : Grow H (upd H p (.lst vs)) := Grow.upd n
  have np := R.fresh n
  cases c with
  | false =>
    have R' := R.grow g
    have E : Ext r h H r h (upd H p (.lst vs)) := Ext.grow g
    exact ⟨.t (.list ds), r, h, R', E, (show TR K (Lv r h) (upd H p (.lst vs)) (.ref p) (.list ds) from .lst upd_same np (TRs.mono E.keep _ _ t)), q r _ R' E⟩
  | true =>
    obtain ⟨R', E⟩ := R.alloc t n
    have hp : (r ++ [p])[h.length]? = some p := by
      rw [← R.len, List.getElem?_append_right (Nat.le_refl _), Nat.sub_self]
      rfl
    exact ⟨.c h.length, _, _, R', E, (show ∃ a, (r ++ [p])[h.length]? = some a ∧ V.ref p = .ref a from ⟨p, hp, rfl⟩), q _ _ R' E⟩
end

/-! names and constants -/
def eVar (i : Nat) : DS → M D := fun S => match S[i]? with
  | some (some d) => ret d
  | _ => fail
def eC (d : D) : DS → M D := fun _ => ret d
section
variable {X : Cx} {WE : EW}
theorem de_var {i : Nat} {x : Str} {pos : Pos} (hN : X.N[i]? = some x) (hv : Vis X.env.scope x) (hd : (x == ("__debug__" : Str)) = false := by decide) (hcd : (x == ("__classdict__" : Str)) = false := by decide) : DE X WE (.Name x pos) (eVar i) :=
  PE.imp (pe_var hN hv hd hcd) fun s H Q ⟨r, S, h, R, p⟩ => by
    unfold eVar at p
    cases e : S[i]? with
    | none => simp only [e] at p; exact False.elim p
    | some o => cases o with
      | none => simp only [e] at p; exact False.elim p
      | some d =>
        simp only [e] at p
        obtain ⟨v, v1, v2⟩ := R.slot i d e
        exact ⟨v, v1, p r H R .refl v v2⟩
theorem de_const {e : Expr} {d : D} {v : V} (h : PE X e (tC v)) (c : ∀ r hh H, DR X.K r hh H d v) : DE X WE e (eC d) :=
  PE.imp h fun s H Q ⟨r, S, hh, R, p⟩ => p r H R .refl v (c _ _ _)
theorem de_int {i : Int} {j : Nat} {pos : Pos} : DE X WE (.Constant (.int i) j pos) (eC (.t (.int i))) := de_const pe_int fun _ _ _ => .int i
theorem de_bl {b : Bool} {j : Nat} {pos : Pos} : DE X WE (.Constant (.bool b) j pos) (eC (.t (.bool b))) := de_const pe_bl fun _ _ _ => .bl b
theorem de_non {j : Nat} {pos : Pos} : DE X WE (.Constant .none j pos) (eC (.t .none)) := de_const pe_non fun _ _ _ => .non
theorem de_str {x : Str} {j : Nat} {pos : Pos} : DE X WE (.Constant (.str x) j pos) (eC (.t (.str x))) := de_const pe_str fun _ _ _ => .str x
/-- a module's constant -/
theorem de_gint {x : Str} {i : Int} {pos : Pos} (hg : Gl X x) (hm : ∃ t, X.mg x = some (.int i t)) (hd : (x == ("__debug__" : Str)) = false := by decide) : DE X WE (.Name x pos) (eC (.t (.int i))) := by
  obtain ⟨t, hm⟩ := hm
  exact de_const (pe_glob (v := .int i) hg hm ⟨t, rfl⟩ hd) fun _ _ _ => .int i
theorem de_gstr {x z : Str} {pos : Pos} (hg : Gl X x) (hm : ∃ t, X.mg x = some (.str z t)) (hd : (x == ("__debug__" : Str)) = false := by decide) : DE X WE (.Name x pos) (eC (.t (.str z))) := by
  obtain ⟨t, hm⟩ := hm
  exact de_const (pe_glob (v := .str z) hg hm ⟨t, rfl⟩ hd) fun _ _ _ => .str z
theorem de_gref {x : Str} {a : Addr} {pos : Pos} (hg : Gl X x) (hm : X.mg x = some (.ref a)) (hd : (x == ("__debug__" : Str)) = false := by decide) : DE X WE (.Name x pos) (eC (.k (.ref a))) :=
  de_const (pe_glob (v := .ref a) hg hm rfl hd) fun _ _ _ => rfl
theorem de_ty {x : Str} {T : String} {pos : Pos} (hg : Gl X x) (hm : X.mg x = none) (hv : bootBuiltins x = some (.type T)) (hn : x ≠ "__name__" := by decide) (hd : (x == ("__debug__" : Str)) = false := by decide) : DE X WE (.Name x pos) (eC (.k (.ty T))) :=
  de_const (pe_bltn (v := .ty T) hg hm hv rfl hn hd) fun _ _ _ => rfl

/-! operators by trees -/
def PureD (K : PySem.W.Frag) (r : R2) (g : PyData → PyData → Option PyData) : Prop :=
  ∀ (L : Addr → Prop) (H : Hp) (x y : V) (a b z : PyData) (Q : VK), (∀ p, L p → ∃ o, H p = some o) → WR K L H x a → WR K L H y b → g a b = some z → (∀ v H', Grow H H' → TR K L H' v z → Q v H') → r x y H Q
def dBin (g : PyData → PyData → Option PyData) (ma mb : DS → M D) : DS → M D := fun S => bd (ma S) fun a => bd (mb S) fun b => bd (rd a) fun x => bd (rd b) fun y => bd (opt (g x y)) fun z => ret (.t z)
theorem bin_imp {r : R2} {g : PyData → PyData → Option PyData} {K : PySem.W.Frag} {ma mb : DS → M D} (hg : PureD K r g) (s : St) (H : Hp) (Q : VK) : tD K WE (dBin g ma mb) s H Q → tOp r (tD K WE ma) (tD K WE mb) s H Q := by
  rintro ⟨r0, S, h, R, p⟩
  refine ⟨r0, S, h, R, p.bd.mono fun a r1 h1 H1 R1 E1 q v dv => ⟨r1, S, h1, R1, q.bd.mono fun b r2 h2 H2 R2 E2 q2 w dw => ?_⟩⟩
  obtain ⟨x, x1, x2⟩ := rd_ok R2 (dv.ext E2) q2.bd
  obtain ⟨y, y1, y2⟩ := rd_ok R2 dw x2.bd
  obtain ⟨z, z1, z2⟩ := y2.bd.opt R2
  refine hg (Lv r2 h2) H2 v w x y z Q (fun p l => R2.lv l) x1 y1 z1 fun u H' gr t => ?_
  exact z2 r2 H' (R2.grow gr) (.grow gr) u t
theorem de_bin {op : Operator} {r : R2} {g : PyData → PyData → Option PyData} {a b : Expr} {ma mb : DS → M D} {pos : Pos} (ho : OpR X (binaryOp op) r) (hg : PureD X.K r g) (ha : DE X WE a ma) (hb : DE X WE b mb) : DE X WE (.BinOp a op b pos) (dBin g ma mb) :=
  PE.imp (pe_op ho ha hb) (bin_imp hg)
theorem de_cmp {op : CmpOp} {r : R2} {g : PyData → PyData → Option PyData} {a b : Expr} {ma mb : DS → M D} {pos : Pos} (ho : OpR X (compareOp op) r) (hg : PureD X.K r g) (ha : DE X WE a ma) (hb : DE X WE b mb) (hm : behindInMarks op b = false) : DE X WE (.Compare a [op] [b] pos) (dBin g ma mb) :=
  PE.imp (pe_cmpR ho ha hb hm) (bin_imp hg)
def dTest (m : DS → M D) : DS → M Bool := fun S => bd (m S) fun d => match d with
  | .t (.bool b) => ret b
  | _ => fail
theorem test_imp {K : PySem.W.Frag} {t : TE} {m : DS → M D} (i : ∀ s H Q, tD K WE m s H Q → t s H Q) (s : St) (H : Hp) (Q : Bool → Hp → Prop) : tDT K WE (dTest m) s H Q → tTest t s H Q := by
  rintro ⟨r0, S, h, R, p⟩
  refine i s H _ ⟨r0, S, h, R, p.bd.mono fun d r1 h1 H1 R1 E1 q v dv => ?_⟩
  cases d with
  | t d =>
    cases d with
    | bool b => cases dv; exact ⟨b, rfl, q r1 H1 R1 .refl⟩
    | _ => exact False.elim q
  | _ => exact False.elim q
theorem dt_cmp {op : CmpOp} {r : R2} {g : PyData → PyData → Option PyData} {a b : Expr} {ma mb : DS → M D} {pos : Pos} (ho : OpR X (compareOp op) r) (hg : PureD X.K r g) (ha : DE X WE a ma) (hb : DE X WE b mb) (hm : behindInMarks op b = false) : DT X WE (.Compare a [op] [b] pos) (dTest (dBin g ma mb)) :=
  PT.imp (pt_cmpR ho ha hb hm) (test_imp (bin_imp hg))
/-- a op b op c -/
def dChain (g g' : PyData → PyData → Option PyData) (ma mb mc : DS → M D) : DS → M D := fun S => bd (ma S) fun a => bd (mb S) fun b => bd (rd a) fun x => bd (rd b) fun y => bd (opt (g x y)) fun z => match z with
  | .bool true => bd (mc S) fun c => bd (rd b) fun y' => bd (rd c) fun w => bd (opt (g' y' w)) fun u => ret (.t u)
  | .bool false => ret (.t (.bool false))
  | _ => fail
theorem chain_imp {r r' : R2} {g g' : PyData → PyData → Option PyData} {K : PySem.W.Frag} {ma mb mc : DS → M D} (hg : PureD K r g) (hg' : PureD K r' g') (s : St) (H : Hp) (Q : VK) : tD K WE (dChain g g' ma mb mc) s H Q → tChain r r' (tD K WE ma) (tD K WE mb) (tD K WE mc) s H Q := by
  rintro ⟨r0, S, h, R, p⟩
  refine ⟨r0, S, h, R, p.bd.mono fun a r1 h1 H1 R1 E1 q v dv => ⟨r1, S, h1, R1, q.bd.mono fun b r2 h2 H2 R2 E2 q2 w dw => ?_⟩⟩
  obtain ⟨x, x1, x2⟩ := rd_ok R2 (dv.ext E2) q2.bd
  obtain ⟨y, y1, y2⟩ := rd_ok R2 dw x2.bd
  obtain ⟨z, z1, z2⟩ := y2.bd.opt R2
  refine hg (Lv r2 h2) H2 v w x y z _ (fun p l => R2.lv l) x1 y1 z1 fun u H' gr t => ?_
  have R3 := R2.grow gr
  have E3 : Ext r2 h2 H2 r2 h2 H' := .grow gr
  cases z with
  | bool k =>
    cases t
    refine ⟨k, rfl, ?_⟩
    cases k with
    | true =>
      rw [if_pos rfl]
      refine ⟨r2, S, h2, R3, (z2.at E3).bd.mono fun c r4 h4 H4 R4 E4 q4 w' dw' => ?_⟩
      obtain ⟨y', e1, e2⟩ := rd_ok R4 ((dw.ext E3).ext E4) q4.bd
      obtain ⟨c', e3, e4⟩ := rd_ok R4 dw' e2.bd
      obtain ⟨u', e5, e6⟩ := e4.bd.opt R4
      refine hg' (Lv r4 h4) H4 w w' y' c' u' Q (fun p l => R4.lv l) e1 e3 e5 fun u2 H5 gr5 t5 => ?_
      exact e6 r4 H5 (R4.grow gr5) (.grow gr5) u2 t5
    | false =>
      rw [if_neg (by simp)]
      exact z2 r2 H' R3 E3 _ (.bl false)
  | _ => exact False.elim z2
theorem de_chain {op op' : CmpOp} {r r' : R2} {g g' : PyData → PyData → Option PyData} {a b c : Expr} {ma mb mc : DS → M D} {pos : Pos} (ho : OpR X (compareOp op) r) (hg : PureD X.K r g) (ho' : OpR X (compareOp op') r') (hg' : PureD X.K r' g') (ha : DE X WE a ma) (hb : DE X WE b mb) (hc : DE X WE c mc) (hm : lastMarks [op, op'] [b, c] = false := by with_unfolding_all rfl) : DE X WE (.Compare a [op, op'] [b, c] pos) (dChain g g' ma mb mc) :=
  PE.imp (pe_chain ho ho' ha hb hc hm) (chain_imp hg hg')
theorem dt_chain {op op' : CmpOp} {r r' : R2} {g g' : PyData → PyData → Option PyData} {a b c : Expr} {ma mb mc : DS → M D} {pos : Pos} (ho : OpR X (compareOp op) r) (hg : PureD X.K r g) (ho' : OpR X (compareOp op') r') (hg' : PureD X.K r' g') (ha : DE X WE a ma) (hb : DE X WE b mb) (hc : DE X WE c mc) (hm : lastMarks [op, op'] [b, c] = false := by with_unfolding_all rfl) : DT X WE (.Compare a [op, op'] [b, c] pos) (dTest (dChain g g' ma mb mc)) :=
  PT.imp (pt_chain ho ho' ha hb hc hm) (test_imp (chain_imp hg hg'))
/-! one place -/
def PureU (K : PySem.W.Frag) (r : V → Hp → VK → Prop) (g : PyData → Option PyData) : Prop :=
  ∀ (L : Addr → Prop) (H : Hp) (x : V) (a z : PyData) (Q : VK), (∀ p, L p → ∃ o, H p = some o) → WR K L H x a → g a = some z → (∀ v H', Grow H H' → TR K L H' v z → Q v H') → r x H Q
def dUn (g : PyData → Option PyData) (ma : DS → M D) : DS → M D := fun S => bd (ma S) fun a => bd (rd a) fun x => bd (opt (g x)) fun z => ret (.t z)
theorem un_imp {r : V → Hp → VK → Prop} {g : PyData → Option PyData} {K : PySem.W.Frag} {ma : DS → M D} (hg : PureU K r g) (s : St) (H : Hp) (Q : VK) : tD K WE (dUn g ma) s H Q → tUn r (tD K WE ma) s H Q := by
  rintro ⟨r0, S, h, R, p⟩
  refine ⟨r0, S, h, R, p.bd.mono fun a r1 h1 H1 R1 E1 q v dv => ?_⟩
  obtain ⟨x, x1, x2⟩ := rd_ok R1 dv q.bd
  obtain ⟨z, z1, z2⟩ := x2.bd.opt R1
  exact hg (Lv r1 h1) H1 v x z Q (fun p l => R1.lv l) x1 z1 fun u H' gr t => z2 r1 H' (R1.grow gr) (.grow gr) u t
theorem de_un {op : UnaryOp} {r : V → Hp → VK → Prop} {g : PyData → Option PyData} {a : Expr} {ma : DS → M D} {pos : Pos} (ho : UnR X (unaryOp op) r) (hg : PureU X.K r g) (ha : DE X WE a ma) : DE X WE (.UnaryOp op a pos) (dUn g ma) :=
  PE.imp (pe_un ho ha) (un_imp hg)
/-! arguments -/
def aNil : DS → M (List D) := fun _ => ret []
def aCons (m : DS → M D) (ms : DS → M (List D)) : DS → M (List D) := fun S => bd (m S) fun d => bd (ms S) fun ds => ret (d :: ds)
theorem da_nil : DA X WE [] aNil := PA.imp pa_nil fun s H Q ⟨r, S, h, R, p⟩ => p r H R .refl [] .nil
theorem da_cons {e : Expr} {es : List Expr} {m : DS → M D} {ms : DS → M (List D)} (ha : DE X WE e m) (hr : DA X WE es ms) (hs : starEach (e :: es) X.env = (false, eval e X.env) :: starEach es X.env := by rfl) : DA X WE (e :: es) (aCons m ms) :=
  PA.imp (pa_cons ha hr hs) fun s H Q ⟨r0, S, h, R, p⟩ =>
    ⟨r0, S, h, R, p.bd.mono fun a r1 h1 H1 R1 E1 q v dv => ⟨r1, S, h1, R1, q.bd.mono fun b r2 h2 H2 R2 E2 q2 vs dvs => q2 r2 H2 R2 .refl (v :: vs) (.cons (dv.ext E2) dvs)⟩⟩
/-! displays -/
def dLst (c : Bool) (ms : DS → M (List D)) : DS → M D := fun S => bd (ms S) fun ds => bd (fzs ds) fun xs => if xs.length ≤ sizeLine then mk c xs else fail
def dTup (ms : DS → M (List D)) : DS → M D := fun S => bd (ms S) fun ds => bd (fzs ds) fun xs => if xs.length ≤ sizeLine then ret (.t (.tuple xs)) else fail
theorem de_lst (c : Bool) {es : List Expr} {ms : DS → M (List D)} {pos : Pos} (ha : DA X WE es ms) : DE X WE (.List es pos) (dLst c ms) :=
  PE.imp (pe_lst ha) fun s H Q ⟨r0, S, h, R, p⟩ => ⟨r0, S, h, R, p.bd.mono fun ds r1 h1 H1 R1 E1 q vs dvs => by
    obtain ⟨zs, h2, R2, E2, z1, z2⟩ := fzs_ok R1 dvs q.bd
    by_cases hl : zs.length ≤ sizeLine
    · rw [if_pos hl] at z2
      refine ⟨by rw [z1.length]; exact hl, fun p np => ?_⟩
      obtain ⟨d, r3, h3, R3, E3, d3, g3⟩ := mk_ok R2 z1 np z2
      exact g3 _ d3
    · rw [if_neg hl] at z2; exact False.elim z2⟩
theorem de_tup {es : List Expr} {ms : DS → M (List D)} {k : Nat} {pos : Pos} (ha : DA X WE es ms) : DE X WE (.Tuple es k pos) (dTup ms) :=
  PE.imp (pe_tup ha) fun s H Q ⟨r0, S, h, R, p⟩ => ⟨r0, S, h, R, p.bd.mono fun ds r1 h1 H1 R1 E1 q vs dvs => by
    obtain ⟨zs, h2, R2, E2, z1, z2⟩ := fzs_ok R1 dvs q.bd
    by_cases hl : zs.length ≤ sizeLine
    · rw [if_pos hl] at z2
      refine ⟨by rw [z1.length]; exact hl, fun p np => ?_⟩
      have g : Grow H1 (upd H1 p (.tup vs)) := Grow.upd np
      have E3 : Ext r1 h2 H1 r1 h2 (upd H1 p (.tup vs)) := .grow g
      exact z2 r1 _ (R2.grow g) E3 _ (.tup upd_same (R2.fresh np) (TRs.mono E3.keep _ _ z1))
    · rw [if_neg hl] at z2; exact False.elim z2⟩
/-! calls of built-ins by trees -/
def PureC (K : PySem.W.Frag) (r : List V → Hp → VK → Prop) (g : List PyData → Option PyData) : Prop :=
  ∀ (L : Addr → Prop) (H : Hp) (vs : List V) (xs : List PyData) (z : PyData) (Q : VK), (∀ p, L p → ∃ o, H p = some o) → WRs K L H vs xs → g xs = some z → (∀ v H', Grow H H' → TR K L H' v z → Q v H') → r vs H Q
def dCB (g : List PyData → Option PyData) (ms : DS → M (List D)) : DS → M D := fun S => bd (ms S) fun ds => bd (rds ds) fun xs => bd (opt (g xs)) fun z => ret (.t z)
theorem cb_imp {r : List V → Hp → VK → Prop} {g : List PyData → Option PyData} {K : PySem.W.Frag} {ms : DS → M (List D)} (hg : PureC K r g) (s : St) (H : Hp) (Q : VK) : tD K WE (dCB g ms) s H Q → tCB r (tDA K WE ms) s H Q := by
  rintro ⟨r0, S, h, R, p⟩
  refine ⟨r0, S, h, R, p.bd.mono fun ds r1 h1 H1 R1 E1 q vs dvs => ?_⟩
  obtain ⟨xs, x1, x2⟩ := rds_ok R1 dvs q.bd
  obtain ⟨z, z1, z2⟩ := x2.bd.opt R1
  exact hg (Lv r1 h1) H1 vs xs z Q (fun p l => R1.lv l) x1 z1 fun u H' gr t => z2 r1 H' (R1.grow gr) (.grow gr) u t
section
variable {x : Str} {p pos : Pos} {e : Expr} {es : List Expr} {ms : DS → M (List D)} {r : List V → Hp → VK → Prop} {g : List PyData → Option PyData}
theorem de_callB {id : String} (hc : CallR X (.builtin id) r) (hg : PureC X.K r g) (gl : Gl X x) (hm : X.mg x = none) (hv : bootBuiltins x = some (.builtin id)) (ha : DA X WE (e :: es) ms) (hn : x ≠ "__name__" := by decide) (hdb : (x == ("__debug__" : Str)) = false := by decide)
    (he : starEach (e :: es) X.env = (false, eval e X.env) :: starEach es X.env := by rfl) (hpl : (backTo pos (starEach es X.env)).any (·.1) = false := by rfl) : DE X WE (.Call (.Name x p) (e :: es) [] pos) (dCB g ms) :=
  PE.imp (pe_callB hc gl hm hv ha hn hdb he hpl) (cb_imp hg)
theorem de_callT {T : String} (hc : CallR X (.type T) r) (hg : PureC X.K r g) (gl : Gl X x) (hm : X.mg x = none) (hv : bootBuiltins x = some (.type T)) (ha : DA X WE (e :: es) ms) (hn : x ≠ "__name__" := by decide) (hdb : (x == ("__debug__" : Str)) = false := by decide)
    (he : starEach (e :: es) X.env = (false, eval e X.env) :: starEach es X.env := by rfl) (hpl : (backTo pos (starEach es X.env)).any (·.1) = false := by rfl) : DE X WE (.Call (.Name x p) (e :: es) [] pos) (dCB g ms) :=
  PE.imp (pe_callTy hc gl hm hv ha hn hdb he hpl) (cb_imp hg)
end
/-! tests -/
def tAndD (ma mb : DS → M Bool) : DS → M Bool := fun S => bd (ma S) fun c => match c with
  | true => mb S
  | false => ret false
def tOrD (ma mb : DS → M Bool) : DS → M Bool := fun S => bd (ma S) fun c => match c with
  | true => ret true
  | false => mb S
def tNotD (ma : DS → M Bool) : DS → M Bool := fun S => bd (ma S) fun c => ret (!c)
section
variable {a b : Expr} {rest : List Expr} {pos : Pos} {ma mb : DS → M Bool}
theorem dw_and1 (ha : DT X WE a ma) : DW X WE (.BoolOp .And [a] pos) ma := pw_and1 ha
theorem dw_or1 (ha : DT X WE a ma) : DW X WE (.BoolOp .Or [a] pos) ma := pw_or1 ha
theorem dw_and (ha : DT X WE a ma) (hb : DW X WE (.BoolOp .And (b :: rest) pos) mb) : DW X WE (.BoolOp .And (a :: b :: rest) pos) (tAndD ma mb) :=
  PW.imp (pw_and ha hb) fun s H Q ⟨r0, S, h, R, p⟩ => ⟨r0, S, h, R, p.bd.mono fun c r1 h1 H1 R1 E1 q => by
    cases c with
    | true => rw [if_pos rfl]; exact ⟨r1, S, h1, R1, q⟩
    | false => rw [if_neg (by simp)]; exact q r1 H1 R1 .refl⟩
theorem dw_or (ha : DT X WE a ma) (hb : DW X WE (.BoolOp .Or (b :: rest) pos) mb) : DW X WE (.BoolOp .Or (a :: b :: rest) pos) (tOrD ma mb) :=
  PW.imp (pw_or ha hb) fun s H Q ⟨r0, S, h, R, p⟩ => ⟨r0, S, h, R, p.bd.mono fun c r1 h1 H1 R1 E1 q => by
    cases c with
    | true => rw [if_pos rfl]; exact q r1 H1 R1 .refl
    | false => rw [if_neg (by simp)]; exact ⟨r1, S, h1, R1, q⟩⟩
theorem dt_w {e : Expr} {m : DS → M Bool} (hw : DW X WE e m) : DT X WE e m := PW.pt hw
theorem dt_not (ha : DT X WE a ma) : DT X WE (.UnaryOp .Not a pos) (tNotD ma) :=
  PT.imp (pt_not ha) fun s H Q ⟨r0, S, h, R, p⟩ => ⟨r0, S, h, R, p.bd.mono fun c r1 h1 H1 R1 E1 q => q r1 H1 R1 .refl⟩
end
/-- truth -/
def truP : PyData → Option Bool
  | .none => some false
  | .bool b => some b
  | .int i => some (i != 0)
  | .str x => if x.length ≤ sizeLine then some ((x.length : Int) != 0) else none
  | .list ds => some (!ds.isEmpty)
  | .tuple ds => some (!ds.isEmpty)
  | .dict _ => none
theorem empty_len {α β : Type} {xs : List α} {ys : List β} (h : xs.length = ys.length) : xs.isEmpty = ys.isEmpty := by
  cases xs <;> cases ys <;> simp_all
theorem tru_of {K : PySem.W.Frag} {L : Addr → Prop} {H : Hp} {v : V} {d : PyData} {b : Bool} (w : WR K L H v d) (e : truP d = some b) : TruV K v H b := by
  cases d with
  | none => cases w; cases e; rfl
  | bool c => cases w; cases e; rfl
  | int i => cases w; cases e; rfl
  | str x =>
    cases w
    simp only [truP] at e
    split at e
    · cases e; exact ⟨by assumption, rfl⟩
    · cases e
  | list ds =>
    obtain ⟨a, xs, rfl, e1, e2⟩ := w
    cases e
    exact .inl ⟨xs, SqL.of e1, by rw [empty_len e2.length]⟩
  | tuple ds =>
    cases w with
    | tup e1 n e2 =>
      cases e
      exact .inr (.inl ⟨_, SqT.of e1, by rw [empty_len e2.length]⟩)
  | dict kvs => cases e
def dTru (m : DS → M D) : DS → M Bool := fun S => bd (m S) fun d => bd (rd d) fun x => opt (truP x)
theorem dt_tru {a : Expr} {m : DS → M D} (ha : DE X WE a m) (he : ∀ whole, isTrue a X.env whole = (do let v ← whole; standAt a.pos; holding [v] (truthy v)) := by intro _; rfl) : DT X WE a (dTru m) :=
  PT.imp (pt_truth ha he) fun s H Q ⟨r0, S, h, R, p⟩ => ⟨r0, S, h, R, p.bd.mono fun d r1 h1 H1 R1 E1 q v dv => by
    obtain ⟨x, x1, x2⟩ := rd_ok R1 dv q.bd
    obtain ⟨b, b1, b2⟩ := x2.opt R1
    exact ⟨b, tru_of x1 b1, b2⟩⟩
/-- a if t else b -/
def dIf (t : DS → M Bool) (ma mb : DS → M D) : DS → M D := fun S => bd (t S) fun c => match c with
  | true => ma S
  | false => mb S
theorem de_if {c a b : Expr} {pos : Pos} {t : DS → M Bool} {ma mb : DS → M D} (hc : DT X WE c t) (ha : DE X WE a ma) (hb : DE X WE b mb) : DE X WE (.IfExp c a b pos) (dIf t ma mb) :=
  PE.imp (pe_ifExp hc ha hb) fun s H Q ⟨r0, S, h, R, p⟩ => ⟨r0, S, h, R, p.bd.mono fun c r1 h1 H1 R1 E1 q => by
    cases c with
    | true => rw [if_pos rfl]; exact ⟨r1, S, h1, R1, q⟩
    | false => rw [if_neg (by simp)]; exact ⟨r1, S, h1, R1, q⟩⟩
/-- and, or, not as values; all but the last are bools -/
def dAnd (ma mb : DS → M D) : DS → M D := fun S => bd (ma S) fun a => match a with
  | .t (.bool true) => mb S
  | .t (.bool false) => ret (.t (.bool false))
  | _ => fail
def dOr (ma mb : DS → M D) : DS → M D := fun S => bd (ma S) fun a => match a with
  | .t (.bool true) => ret (.t (.bool true))
  | .t (.bool false) => mb S
  | _ => fail
def dNot (ma : DS → M D) : DS → M D := fun S => bd (ma S) fun a => match a with
  | .t (.bool b) => ret (.t (.bool (!b)))
  | _ => fail
section
variable {a b : Expr} {rest : List Expr} {pos : Pos} {ma mb : DS → M D} {op : BoolOp}
theorem de_one (ha : DE X WE a ma) : DE X WE (.BoolOp op [a] pos) ma := pe_one ha
theorem de_and (ha : DE X WE a ma) (hb : DE X WE (.BoolOp .And (b :: rest) pos) mb) : DE X WE (.BoolOp .And (a :: b :: rest) pos) (dAnd ma mb) :=
  PE.imp (pe_and ha hb) fun s H Q ⟨r0, S, h, R, p⟩ => ⟨r0, S, h, R, p.bd.mono fun d r1 h1 H1 R1 E1 q v dv => by
    cases d with
    | t d =>
      cases d with
      | bool c =>
        cases dv
        refine ⟨c, rfl, ?_⟩
        cases c with
        | true => rw [if_pos rfl]; exact ⟨r1, S, h1, R1, q⟩
        | false => rw [if_neg (by simp)]; exact q r1 H1 R1 .refl _ (.bl false)
      | _ => exact False.elim q
    | _ => exact False.elim q⟩
theorem de_or (ha : DE X WE a ma) (hb : DE X WE (.BoolOp .Or (b :: rest) pos) mb) : DE X WE (.BoolOp .Or (a :: b :: rest) pos) (dOr ma mb) :=
  PE.imp (pe_or ha hb) fun s H Q ⟨r0, S, h, R, p⟩ => ⟨r0, S, h, R, p.bd.mono fun d r1 h1 H1 R1 E1 q v dv => by
    cases d with
    | t d =>
      cases d with
      | bool c =>
        cases dv
        refine ⟨c, rfl, ?_⟩
        cases c with
        | true => rw [if_pos rfl]; exact q r1 H1 R1 .refl _ (.bl true)
        | false => rw [if_neg (by simp)]; exact ⟨r1, S, h1, R1, q⟩
      | _ => exact False.elim q
    | _ => exact False.elim q⟩
theorem de_not (ha : DE X WE a ma) : DE X WE (.UnaryOp .Not a pos) (dNot ma) :=
  PE.imp (pe_not ha) fun s H Q ⟨r0, S, h, R, p⟩ => ⟨r0, S, h, R, p.bd.mono fun d r1 h1 H1 R1 E1 q v dv => by
    cases d with
    | t d =>
      cases d with
      | bool c => cases dv; exact ⟨c, rfl, q r1 H1 R1 .refl _ (.bl _)⟩
      | _ => exact False.elim q
    | _ => exact False.elim q⟩
end
end
end DL
set_option Elab.async false
set_option linter.all false
set_option maxRecDepth 100000
set_option maxHeartbeats 2000000
set_option autoImplicit false
namespace DL
open PySem PySem.Spec L2
open PyProof.Rows hiding St

/-! statements -/
inductive Out where
  | nx | rt (d : D) | bk | ct | er (c : Str) (p : D)
abbrev SM := DS → Hd → Option (Out × DS × Hd)
def Fin (K : PySem.W.Frag) (WE : EW) (Z : Ends) (r : List Addr) (h : Hd) (s : St) (H : Hp) : Out → Prop
  | .nx => Z.nx s H
  | .rt d => ∀ v, DR K r h H d v → Z.rt v H
  | .bk => Z.bk s H
  | .ct => Z.ct s H
  | .er c p => WE c p r h s H
def PostS (K : PySem.W.Frag) (WE : EW) (r : List Addr) (h : Hd) (H : Hp) (x : Option (Out × DS × Hd)) (G : Out → List Addr → DS → Hd → St → Hp → Prop) : Prop := match x with
  | none => False
  | some (o, S', h') => ∀ r' s' H', Rel K r' S' h' s' H' → Ext r h H r' h' H' → G o r' S' h' s' H'
def tS (K : PySem.W.Frag) (WE : EW) (g : SM) : TS := fun Z s H => ∃ r S h, Rel K r S h s H ∧ PostS K WE r h H (g S h) (fun o r' _ h' s' H' => Fin K WE Z r' h' s' H' o)
def DSt (X : Cx) (WE : EW) (st : Stmt) (g : SM) : Prop := PS X st (tS X.K WE g)
def DSs (X : Cx) (WE : EW) (st : List Stmt) (g : SM) : Prop := PSs X st (tS X.K WE g)
theorem PS.imp {X : Cx} {e : Stmt} {t t' : TS} (p : PS X e t) (i : ∀ Z s H, t' Z s H → t Z s H) : PS X e t' := ⟨fun a b c d Q I q => p.run a b c d Q I (i _ _ _ q)⟩
theorem PSs.imp {X : Cx} {e : List Stmt} {t t' : TS} (p : PSs X e t) (i : ∀ Z s H, t' Z s H → t Z s H) : PSs X e t' := ⟨fun a b c d Q I q => p.run a b c d Q I (i _ _ _ q)⟩
def sB {α : Type} (m : DS → M α) (k : α → SM) : SM := fun S h => match m S h with
  | some (.ok a h') => k a S h'
  | some (.err c p h') => some (.er c p, S, h')
  | none => none
def sNext : SM := fun S h => some (.nx, S, h)
def sNever : SM := fun _ _ => none
def sSeq (a b : SM) : SM := fun S h => match a S h with
  | some (.nx, S', h') => b S' h'
  | x => x
section
variable {K : PySem.W.Frag} {WE : EW} {r r1 : List Addr} {S : DS} {h : Hd} {s : St} {H H1 : Hp} {G G' : Out → List Addr → DS → Hd → St → Hp → Prop}
theorem PostS.mono {x : Option (Out × DS × Hd)} (p : PostS K WE r h H x G) (g : ∀ o r' S' h' s' H', Rel K r' S' h' s' H' → Ext r h H r' h' H' → G o r' S' h' s' H' → G' o r' S' h' s' H') : PostS K WE r h H x G' := by
  cases x with
  | none => exact p
  | some x => obtain ⟨o, S', h'⟩ := x; exact fun r' s' H' R E => g o r' S' h' s' H' R E (p r' s' H' R E)
theorem PostS.at {x : Option (Out × DS × Hd)} (p : PostS K WE r h H x G) {h1 : Hd} (E : Ext r h H r1 h1 H1) : PostS K WE r1 h1 H1 x G := by
  cases x with
  | none => exact p
  | some x => obtain ⟨o, S', h'⟩ := x; exact fun r' s' H' R E2 => p r' s' H' R (E.trans E2)
/-- what follows an expression -/
theorem PostS.sB {α : Type} {m : DS → M α} {k : α → SM} {Z : Ends} (p : PostS K WE r h H (sB m k S h) (fun o r' _ h' s' H' => Fin K WE Z r' h' s' H' o)) :
    Post K WE r S h s H (m S h) (fun a r1 h1 H1 => PostS K WE r1 h1 H1 (k a S h1) (fun o r' _ h' s' H' => Fin K WE Z r' h' s' H' o)) := by
  unfold DL.sB at p
  cases e : m S h with
  | none => rw [e] at p; exact p
  | some x => cases x with
    | ok a h' =>
      rw [e] at p
      intro r' H' R E
      exact PostS.at (show PostS K WE r h H (k a S h') _ from p) E
    | err c q h' =>
      rw [e] at p
      exact fun r' H' R E => p r' s H' R E
end
section
variable {X : Cx} {WE : EW} {st : Stmt} {rest : List Stmt} {g g1 g2 : SM} {pos : Pos} {e : Expr} {m : DS → M D}
theorem ds_nil : DSs X WE [] sNext := PSs.imp pss_nil fun Z s H ⟨r, S, h, R, p⟩ => p r s H R .refl
theorem ds_cons (h1 : DSt X WE st g1) (h2 : DSs X WE rest g2) : DSs X WE (st :: rest) (sSeq g1 g2) :=
  PSs.imp (pss_cons h1 h2) fun Z s H ⟨r, S, h, R, p⟩ => by
    refine ⟨r, S, h, R, ?_⟩
    unfold sSeq at p
    cases x : g1 S h with
    | none => rw [x] at p; exact p
    | some y =>
      obtain ⟨o, S', h'⟩ := y
      rw [x] at p
      cases o with
      | nx => exact fun r' s' H' R' E' => ⟨r', S', h', R', p.at E'⟩
      | rt d => exact p
      | bk => exact p
      | ct => exact p
      | er c q => exact p
theorem ds_one (h1 : DSt X WE st g) : DSs X WE [st] g := pss_one h1
theorem ds_pass : DSt X WE (.Pass pos) sNext := PS.imp ps_pass fun Z s H ⟨r, S, h, R, p⟩ => p r s H R .refl
theorem ds_never : DSt X WE st sNever := PS.imp ps_never fun Z s H ⟨r, S, h, R, p⟩ => p
def sBreak : SM := fun S h => some (.bk, S, h)
def sCont : SM := fun S h => some (.ct, S, h)
theorem ds_break : DSt X WE (.Break pos) sBreak := PS.imp ps_break fun Z s H ⟨r, S, h, R, p⟩ => p r s H R .refl
theorem ds_cont : DSt X WE (.Continue pos) sCont := PS.imp ps_continue fun Z s H ⟨r, S, h, R, p⟩ => p r s H R .refl
def sRet (m : DS → M D) : SM := sB m fun d S h => some (.rt d, S, h)
def sRetN : SM := fun S h => some (.rt (.t .none), S, h)
def sDrop (m : DS → M D) : SM := sB m fun _ S h => some (.nx, S, h)
theorem ds_ret (he : DE X WE e m) : DSt X WE (.Return (some e) pos) (sRet m) :=
  PS.imp (ps_ret he) fun Z s H ⟨r, S, h, R, p⟩ => ⟨r, S, h, R, p.sB.mono fun d r1 h1 H1 R1 E1 q v dv => q r1 s H1 R1 .refl v dv⟩
theorem ds_retN : DSt X WE (.Return none pos) sRetN :=
  PS.imp ps_retN fun Z s H ⟨r, S, h, R, p⟩ => p r s H R .refl .non .non
theorem ds_expr (he : DE X WE e m) (hs : swapsWith e none pos.line X.env = pure false := by rfl) : DSt X WE (.Expr e pos) (sDrop m) :=
  PS.imp (ps_expr he hs) fun Z s H ⟨r, S, h, R, p⟩ => ⟨r, S, h, R, p.sB.mono fun d r1 h1 H1 R1 E1 q v dv => q r1 s H1 R1 .refl⟩
def sIf (t : DS → M Bool) (a b : SM) : SM := sB t fun c => match c with
  | true => a
  | false => b
theorem ds_if {c : Expr} {a b : List Stmt} {t : DS → M Bool} (hc : DT X WE c t) (ha : DSs X WE a g1) (hb : DSs X WE b g2) : DSt X WE (.If c a b pos) (sIf t g1 g2) :=
  PS.imp (ps_if hc ha hb) fun Z s H ⟨r, S, h, R, p⟩ => ⟨r, S, h, R, p.sB.mono fun c r1 h1 H1 R1 E1 q => by
    cases c with
    | true => rw [if_pos rfl]; exact ⟨r1, S, h1, R1, q⟩
    | false => rw [if_neg (by simp)]; exact ⟨r1, S, h1, R1, q⟩⟩
/-! targets -/
theorem wipe_set {i : Nat} {x : Option V} : ∀ {vs : List Nat} {s : St}, i ∈ vs → L2.wipe (s.set i x) vs = L2.wipe s vs
  | [], _, h => by cases h
  | v :: vs, s, h => by
    show (L2.wipe (s.set i x) vs).set v none = (L2.wipe s vs).set v none
    by_cases hm : i ∈ vs
    · rw [wipe_set hm]
    · have hv : i = v := by
        rcases List.mem_cons.mp h with z | z
        · exact z
        · exact absurd z hm
      subst hv
      have key : ∀ {ws : List Nat} {s : St}, i ∉ ws → L2.wipe (s.set i x) ws = (L2.wipe s ws).set i x := by
        intro ws
        induction ws with
        | nil => intro s _; rfl
        | cons w ws ih =>
          intro s hw
          show (L2.wipe (s.set i x) ws).set w none = ((L2.wipe s ws).set w none).set i x
          rw [ih fun z => hw (List.mem_cons_of_mem _ z), List.set_comm]
          intro z
          exact hw (by rw [z]; exact List.mem_cons_self)
      rw [key hm, List.set_set]
/-- a target takes a tree -/
def tG (K : PySem.W.Frag) (f : PyData → DS → Option DS) (is : List Nat) : TG := fun v s H Q =>
  ∃ r S h d S', Rel K r S h s H ∧ TR K (Lv r h) H v d ∧ f d S = some S' ∧ ∀ s', Rel K r S' h s' H → (∀ own : List Nat, (∀ i ∈ is, i ∈ own) → L2.wipe s' own = L2.wipe s own) → Q s' H
def tGs (K : PySem.W.Frag) (f : List PyData → DS → Option DS) (is : List Nat) : TGs := fun vs s H Q =>
  ∃ r S h ds S', Rel K r S h s H ∧ TRs K (Lv r h) H vs ds ∧ f ds S = some S' ∧ ∀ s', Rel K r S' h s' H → (∀ own : List Nat, (∀ i ∈ is, i ∈ own) → L2.wipe s' own = L2.wipe s own) → Q s' H
def DG (X : Cx) (tg : Expr) (f : PyData → DS → Option DS) (is : List Nat) : Prop := PG X tg (tG X.K f is)
def DGs (X : Cx) (ts : List Expr) (f : List PyData → DS → Option DS) (is : List Nat) : Prop := PGs X ts (tGs X.K f is)
theorem PG.imp {X : Cx} {e : Expr} {t t' : TG} (p : PG X e t) (i : ∀ v s H Q, t' v s H Q → t v s H Q) : PG X e t' := ⟨fun a b c d v u Q I rv q => p.run a b c d v u Q I rv (i _ _ _ _ q)⟩
theorem PGs.imp {X : Cx} {e : List Expr} {t t' : TGs} (p : PGs X e t) (i : ∀ v s H Q, t' v s H Q → t v s H Q) : PGs X e t' := ⟨fun a b c d v u Q I rv q => p.run a b c d v u Q I rv (i _ _ _ _ q)⟩
def gN (i : Nat) : PyData → DS → Option DS := fun d S => some (S.set i (some (.t d)))
theorem dg_name {i : Nat} {x : Str} (hN : X.N.Nodup) (hi : X.N[i]? = some x) (hx : Loc X.env.scope x) (hf : X.fn x = true ∨ X.env.scope.names.lookup x = some .local := by first | exact .inl rfl | exact .inr rfl | assumption) : DG X (.Name x pos) (gN i) [i] :=
  PG.imp (pg_name hN hi hx hf) fun v s H Q ⟨r, S, h, d, S', R, t, e, q⟩ => by
    cases e
    exact q _ (R.set i (d := .t d) t) fun own ho => wipe_set (ho i (by simp))
def gsNil : List PyData → DS → Option DS
  | [], S => some S
  | _, _ => none
def gsCons (f : PyData → DS → Option DS) (fs : List PyData → DS → Option DS) : List PyData → DS → Option DS
  | d :: ds, S => (f d S).bind (fs ds)
  | _, _ => none
def gT (n : Nat) (fs : List PyData → DS → Option DS) : PyData → DS → Option DS
  | .tuple ds, S => if ds.length = n then fs ds S else none
  | _, _ => none
theorem dgs_nil : DGs X [] gsNil [] := PGs.imp pgs_nil fun vs s H Q ⟨r, S, h, ds, S', R, t, e, q⟩ => by
  cases ds with
  | nil => cases t; cases e; exact ⟨rfl, q _ R fun _ _ => rfl⟩
  | cons d ds => cases e
theorem dgs_cons {ts : List Expr} {f : PyData → DS → Option DS} {fs : List PyData → DS → Option DS} {is js : List Nat} (h1 : DG X e f is) (h2 : DGs X ts fs js) (hs : (assignEach (e :: ts) X.env).map (·.2) = assign e X.env :: (assignEach ts X.env).map (·.2) := by rfl) : DGs X (e :: ts) (gsCons f fs) (is ++ js) :=
  PGs.imp (pgs_cons h1 h2 hs) fun vs s H Q ⟨r, S, h, ds, S', R, t, e, q⟩ => by
    cases ds with
    | nil => cases e
    | cons d ds =>
      cases t with
      | cons a b =>
        cases z : f d S with
        | none => simp only [gsCons, z, Option.bind] at e; cases e
        | some S1 =>
          simp only [gsCons, z, Option.bind] at e
          exact ⟨_, _, rfl, r, S, h, d, S1, R, a, z, fun s' R' w => ⟨r, S1, h, ds, S', R', b, e, fun s2 R2 w2 => q s2 R2 fun own ho => (w2 own fun i hi => ho i (List.mem_append_right _ hi)).trans (w own fun i hi => ho i (List.mem_append_left _ hi))⟩⟩
theorem dg_tup {ts : List Expr} {k n : Nat} {fs : List PyData → DS → Option DS} {is : List Nat} (hc : X.calm = true) (h : DGs X ts fs is) (hn : (assignEach ts X.env).length = n := by rfl) (hst : (assignEach ts X.env).findIdx? (·.1) = none := by rfl) : DG X (.Tuple ts k pos) (gT n fs) is :=
  PG.imp (pg_tup hc h hn hst) fun v s H Q ⟨r, S, hh, d, S', R, t, e, q⟩ => by
    cases d with
    | tuple ds =>
      cases t with
      | tup e1 n1 t1 =>
        by_cases hl : ds.length = n
        · have e' : (if ds.length = n then fs ds S else none) = some S' := e
          rw [if_pos hl] at e'
          exact ⟨_, _, rfl, SqT.of e1, by rw [t1.length]; exact hl, r, S, hh, ds, S', R, t1, e', q⟩
        · have e' : (if ds.length = n then fs ds S else none) = some S' := e
          rw [if_neg hl] at e'
          cases e'
    | _ => cases e
/-! assignments -/
def sSet (i : Nat) (m : DS → M D) : SM := sB m fun d S h => some (.nx, S.set i (some d), h)
theorem ds_set {i : Nat} {x : Str} {pos' : Pos} (hN : X.N.Nodup) (hi : X.N[i]? = some x) (hx : Loc X.env.scope x) (he : DE X WE e m) (hs : swapsWith e (some (.Name x pos')) pos.line X.env = pure false := by rfl) (hf : X.fn x = true ∨ X.env.scope.names.lookup x = some .local := by first | exact .inl rfl | exact .inr rfl | assumption) : DSt X WE (.Assign [.Name x pos'] e pos) (sSet i m) :=
  PS.imp (ps_set hN hi hx he hs hf) fun Z s H ⟨r, S, h, R, p⟩ => ⟨r, S, h, R, p.sB.mono fun d r1 h1 H1 R1 E1 q v dv => q r1 _ H1 (R1.set i dv) .refl⟩
/-- target = value, a tree -/
def sAsg (f : PyData → DS → Option DS) (m : DS → M D) : SM := sB m fun d => sB (fun _ => fz d) fun z S h => match f z S with
  | some S' => some (.nx, S', h)
  | none => none
theorem ds_asg {tg : Expr} {f : PyData → DS → Option DS} {is : List Nat} (he : DE X WE e m) (hg : DG X tg f is) (hs : swapsWithSole [tg] e pos.line X.env = pure false := by rfl) (hw : swappedStores [tg] e X.env = pure none := by rfl) (h1 : (assignEach [tg] X.env).map (·.2) = [assign tg X.env] := by rfl) : DSt X WE (.Assign [tg] e pos) (sAsg f m) := by
  refine PS.imp (ps_asg he hg hs hw h1) fun Z s H ⟨r, S, h, R, q⟩ => ⟨r, S, h, R, q.sB.mono fun d r1 h1 H1 R1 E1 q v dv => ?_⟩
  obtain ⟨z, h2, R2, E2, z1, z2⟩ := fz_ok R1 dv q.sB
  cases z3 : f z S with
  | none => simp only [z3] at z2; exact False.elim z2
  | some S' =>
    simp only [z3] at z2
    exact ⟨r1, S, h2, z, S', R2, z1, z3, fun s' R' _ => z2 r1 s' H1 R' .refl⟩
/-- a, b = x, y -/
def sPar (i j : Nat) (ms : DS → M (List D)) : SM := sB ms fun ds S h => match ds with
  | [a, b] => some (.nx, (S.set i (some a)).set j (some b), h)
  | _ => none
theorem ds_par {i j : Nat} {x y : Str} {a b : Expr} {ms : DS → M (List D)} {px py pt : Pos} {kt k2 : Nat} {pt2 : Pos} (hc : X.calm = true) (hN : X.N.Nodup) (hi : X.N[i]? = some x) (hj : X.N[j]? = some y) (hij : i ≠ j) (hx : X.env.scope.names.lookup x = some .local) (hy : X.env.scope.names.lookup y = some .local) (ha : DA X WE [a, b] ms)
    (hw : swappedStores [.Tuple [.Name x px, .Name y py] kt pt] (.Tuple [a, b] k2 pt2) X.env = pure (some [x, y])) (hs : swapsWithSole [.Tuple [.Name x px, .Name y py] kt pt] (.Tuple [a, b] k2 pt2) pos.line X.env = pure false := by rfl) :
    DSt X WE (.Assign [.Tuple [.Name x px, .Name y py] kt pt] (.Tuple [a, b] k2 pt2) pos) (sPar i j ms) :=
  PS.imp (ps_par hc hN hi hj hij hx hy ha hw hs) fun Z s H ⟨r, S, h, R, p⟩ => ⟨r, S, h, R, p.sB.mono fun ds r1 h1 H1 R1 E1 q vs dvs => by
    cases dvs with
    | nil => exact False.elim q
    | cons a1 b1 => cases b1 with
      | nil => exact False.elim q
      | cons a2 b2 => cases b2 with
        | nil => exact ⟨_, _, rfl, q r1 _ H1 ((R1.set i a1).set j a2) .refl⟩
        | cons a3 b3 => exact False.elim q⟩
/-! xs[i] = e, xs live -/
theorem Rel.wr {K : PySem.W.Frag} {r : List Addr} {S : DS} {h : Hd} {s : St} {H : Hp} (R : Rel K r S h s H) {n : Nat} {a : Addr} {ds es : List PyData} {ys : List V} (e : h[n]? = some (.lst ds)) (q : r[n]? = some a) (t : TRs K (Lv r h) H ys es) :
    Rel K r S (h.set n (.lst es)) s (upd H a (.lst ys)) ∧ Ext r h H r (h.set n (.lst es)) (upd H a (.lst ys)) := by
  have hn : n < h.length := (List.getElem?_eq_some_iff.mp e).1
  have lv : ∀ b, Lv r (h.set n (.lst es)) b → Lv r h b := by
    rintro b ⟨m, c, m1, m2, m3⟩
    by_cases hm : n = m
    · subst hm
      exact ⟨n, _, m1, e, rfl⟩
    · rw [List.getElem?_set_ne hm] at m2
      exact ⟨m, c, m1, m2, m3⟩
  have la : Lv r h a := ⟨n, _, q, e, rfl⟩
  have E : Ext r h H r (h.set n (.lst es)) (upd H a (.lst ys)) := ⟨⟨[], by simp⟩, fun b o e' nl => ⟨by
    rw [upd_ne (fun z => nl (by rw [z]; exact la))]; exact e', fun l => nl (lv b l)⟩, fun _ _ _ n => n⟩
  refine ⟨⟨R.nd, by rw [R.len, List.length_set], fun m c b e' q' => ?_, R.slen, fun i d e' => ?_⟩, E⟩
  · by_cases hm : n = m
    · subst hm
      rw [List.getElem?_set_self hn] at e'
      cases e'
      rw [q] at q'; cases q'
      exact ⟨ys, upd_same, TRs.mono E.keep _ _ t⟩
    · rw [List.getElem?_set_ne hm] at e'
      have cr := R.cell m c b e' q'
      cases c with
      | lst fs =>
        obtain ⟨zs, y1, y2⟩ := cr
        refine ⟨zs, ?_, TRs.mono E.keep _ _ y2⟩
        rw [upd_ne fun z => hm (by subst z; exact nd_inj R.nd q q')]
        exact y1
      | gone d => exact TR.mono E.keep _ _ cr
  · obtain ⟨v, v1, v2⟩ := R.slot i d e'
    exact ⟨v, v1, v2.ext E⟩
def getC (n : Nat) : M (List PyData) := fun h => match h[n]? with
  | some (.lst ds) => some (.ok ds h)
  | _ => none
def setC (n : Nat) (ds : List PyData) : M Unit := fun h => some (.ok () (h.set n (.lst ds)))
def stIx (o i : D) (z : PyData) : M Unit := match o, i with
  | .c n, .t (.int k) => bd (getC n) fun ds => match ixN ds.length k with
    | some j => setC n (ds.set j z)
    | none => fail
  | _, _ => fail
def sSub (mo mi me : DS → M D) : SM := sB me fun d => sB (fun _ => fz d) fun z => sB mo fun o => sB mi fun i => sB (fun _ => stIx o i z) fun _ S h => some (.nx, S, h)
theorem ds_sub {o i : Expr} {mo mi : DS → M D} {tpos : Pos} (ho : DE X WE o mo) (hi : DE X WE i mi) (he : DE X WE e m) (ha : ∀ v, assign (.Subscript o i tpos) X.env v = (do let ov ← holding [v] (eval o X.env); let iv ← holding [v, ov] (eval i X.env); standAt tpos; holding [v, ov, iv] (setItem ov iv v); release [v, ov, iv] []) := by intro _; rfl)
    (hs : swapsWithSole [.Subscript o i tpos] e pos.line X.env = pure false := by rfl) (hw : swappedStores [.Subscript o i tpos] e X.env = pure none := by rfl) (h1 : (assignEach [.Subscript o i tpos] X.env).map (·.2) = [assign (.Subscript o i tpos) X.env] := by rfl) : DSt X WE (.Assign [.Subscript o i tpos] e pos) (sSub mo mi m) := by
  refine PS.imp (ps_asg he (pg_sub ho hi set_list ha) hs hw h1) fun Z s H ⟨r, S, h, R, q⟩ => ⟨r, S, h, R, q.sB.mono fun d r1 h1 H1 R1 E1 q v dv => ?_⟩
  obtain ⟨z, h2, R2, E2, z1, z2⟩ := fz_ok R1 dv q.sB
  refine ⟨r1, S, h2, R2, z2.sB.mono fun od r3 h3 H3 R3 E3 q3 ov dov => ⟨r3, S, h3, R3, q3.sB.mono fun id r4 h4 H4 R4 E4 q4 iv div => ?_⟩⟩
  have q5 := q4.sB (s := s)
  unfold stIx at q5
  cases od with
  | c n =>
    cases id with
    | t id =>
      cases id with
      | int k =>
        cases div
        obtain ⟨a, qa, rfl⟩ := dov.ext E4
        unfold bd getC at q5
        cases ec : h4[n]? with
        | none => simp only [ec] at q5; exact False.elim q5
        | some c =>
          cases c with
          | gone d => simp only [ec] at q5; exact False.elim q5
          | lst ds =>
            simp only [ec] at q5
            obtain ⟨xs, x1, x2⟩ := R4.cell n _ a ec qa
            cases ej : ixN ds.length k with
            | none => simp only [ej] at q5; exact False.elim q5
            | some j =>
              simp only [ej] at q5
              have zt : TR X.K (Lv r4 h4) H4 v z := TR.mono (E3.trans E4).keep _ _ z1
              obtain ⟨R5, E5⟩ := R4.wr ec qa (x2.set j zt)
              refine ⟨a, xs, k, j, rfl, rfl, x1, by rw [x2.length]; exact ej, ?_⟩
              exact (q5 r4 _ R5 E5) r4 s _ R5 .refl
      | _ => exact False.elim q5
    | _ => exact False.elim q5
  | _ => exact False.elim q5
end
end DL
set_option Elab.async false
set_option linter.all false
set_option maxRecDepth 100000
set_option maxHeartbeats 2000000
set_option autoImplicit false
namespace DL
open PySem PySem.Spec L2
open PyProof.Rows hiding St

section
variable {K : PySem.W.Frag} {WE : EW} {r r1 : List Addr} {S S2 : DS} {h h1 : Hd} {s s2 : St} {H H1 : Hp}
theorem Rel.forget (R : Rel K r S h s H) : Rel K r [] h [] H := ⟨R.nd, R.len, R.cell, rfl, fun i d e => by simp at e⟩
theorem Rel.move (R : Rel K r S h s H) (E : Ext r h H r1 h1 H1) (R2 : Rel K r1 S2 h1 s2 H1) : Rel K r1 S h1 s H1 :=
  ⟨R2.nd, R2.len, R2.cell, R.slen, fun i d e => by
    obtain ⟨v, a, b⟩ := R.slot i d e
    exact ⟨v, a, b.ext E⟩⟩
end

/-! while -/
def whileN (t : DS → M Bool) (b : SM) : Nat → SM
  | 0 => fun _ _ => none
  | n + 1 => sB t fun c => match c with
    | false => fun S h => some (.nx, S, h)
    | true => fun S h => match b S h with
      | some (.nx, S', h') => whileN t b n S' h'
      | some (.ct, S', h') => whileN t b n S' h'
      | some (.bk, S', h') => some (.nx, S', h')
      | x => x
def sWhile (n : Nat) (t : DS → M Bool) (b : SM) : SM := whileN t b n
section
variable {X : Cx} {WE : EW} {pos : Pos}
theorem ds_while (n : Nat) {c : Expr} {body : List Stmt} {t : DS → M Bool} {g : SM} (hp : PassesOwn (model X.prog X.w) X.A X.env X.xe) (hc : DT X WE c t) (hb : DSs X WE body g) : DSt X WE (.While c body [] pos) (sWhile n t g) :=
  PS.imp (ps_while hp hc hb) fun Z s H ⟨r, S, h, R, p⟩ => by
    refine ⟨fun m s H => ∃ r S h, Rel X.K r S h s H ∧ PostS X.K WE r h H (whileN t g m S h) (fun o r' _ h' s' H' => Fin X.K WE Z r' h' s' H' o), ⟨n, r, S, h, R, p⟩, ?_⟩
    rintro m s H ⟨r, S, h, R, p⟩
    cases m with
    | zero => exact False.elim p
    | succ m =>
      refine ⟨r, S, h, R, p.sB.mono fun b r1 h1 H1 R1 E1 q => ?_⟩
      cases b with
      | false => rw [if_neg (by simp)]; exact q r1 s H1 R1 .refl
      | true =>
        rw [if_pos rfl]
        refine ⟨fun s' H' => ∃ r S h, Rel X.K r S h s' H' ∧ PostS X.K WE r h H' (whileN t g m S h) (fun o r' _ h' s' H' => Fin X.K WE Z r' h' s' H' o), fun s' H' w => ⟨m, Nat.lt_succ_self m, w⟩, r1, S, h1, R1, ?_⟩
        simp only [] at q
        cases x : g S h1 with
        | none => rw [x] at q; exact q
        | some y =>
          obtain ⟨o, S', h'⟩ := y
          rw [x] at q
          cases o with
          | nx => exact fun r' s' H' R' E' => ⟨r', S', h', R', q.at E'⟩
          | ct => exact fun r' s' H' R' E' => ⟨r', S', h', R', q.at E'⟩
          | bk => exact fun r' s' H' R' E' => q r' s' H' R' E'
          | rt d => exact fun r' s' H' R' E' => q r' s' H' R' E'
          | er c p => exact fun r' s' H' R' E' => q r' s' H' R' E'

/-! what is walked: items that are known ahead -/
structure ItR (K : PySem.W.Frag) (its : List PyData) (J : It) (V : List Addr → Hd → Hp → Prop) : Prop where
  keep : ∀ r h H r' h' H', V r h H → Ext r h H r' h' H' → V r' h' H'
  go : ∀ r h H i, V r h H → i < its.length → J.go i H
  stop : ∀ r h H i, V r h H → its.length ≤ i → J.stop i H
  yld : ∀ r S h s H i d x H', V r h H → Rel K r S h s H → its[i]? = some d → J.yld i H x H' → Grow H H' ∧ TR K (Lv r h) H' x d
def tI (K : PySem.W.Frag) (WE : EW) (m : DS → M (List PyData)) : TI := fun s H Q => ∃ r S h, Rel K r S h s H ∧ Post K WE r S h s H (m S h) (fun its r' h' H' => ∀ J V H2, Grow H' H2 → V r' h' H2 → ItR K its J V → Q J H2)
def DI (X : Cx) (WE : EW) (tg iter : Expr) (m : DS → M (List PyData)) : Prop := PI X tg iter (tI X.K WE m)
theorem PI.imp {tg e : Expr} {t t' : TI} (p : PI X tg e t) (i : ∀ s H Q, t' s H Q → t s H Q) : PI X tg e t' := ⟨fun a b c d Q I q => p.run a b c d Q I (i _ _ _ q)⟩
/-- a list (tuple) that is a tree -/
def iSeq (m : DS → M D) : DS → M (List PyData) := fun S => bd (m S) fun d => match d with
  | .t (.list ds) => ret ds
  | _ => fail
def iTupl (m : DS → M D) : DS → M (List PyData) := fun S => bd (m S) fun d => match d with
  | .t (.tuple ds) => ret ds
  | _ => fail
theorem itr_list {K : PySem.W.Frag} {a : Addr} {xs : List V} {ds : List PyData} : ItR K ds (Itl K a) (fun r h H => H a = some (.lst xs) ∧ ¬ Lv r h a ∧ TRs K (Lv r h) H xs ds) where
  keep := fun r h H r' h' H' ⟨e, n, t⟩ E => ⟨(E.keep _ _ e n).1, (E.keep _ _ e n).2, TRs.mono E.keep _ _ t⟩
  go := fun r h H i ⟨e, n, t⟩ l => ⟨xs, xs[i]'(by rw [t.length]; exact l), SqL.of e, List.getElem?_eq_getElem _⟩
  stop := fun r h H i ⟨e, n, t⟩ l => ⟨xs, SqL.of e, by rw [t.length]; exact l⟩
  yld := fun r S h s H i d x H' ⟨e, n, t⟩ R q y => by
    obtain ⟨rfl, y2⟩ := y
    obtain ⟨v, v1, v2⟩ := t.get q
    have := y2 xs (SqL.of e)
    rw [v1] at this
    cases this
    exact ⟨Grow.refl, v2⟩
theorem itr_tup {K : PySem.W.Frag} {a : Addr} {xs : List V} {ds : List PyData} : ItR K ds (Itt K a) (fun r h H => H a = some (.tup xs) ∧ ¬ Lv r h a ∧ TRs K (Lv r h) H xs ds) where
  keep := fun r h H r' h' H' ⟨e, n, t⟩ E => ⟨(E.keep _ _ e n).1, (E.keep _ _ e n).2, TRs.mono E.keep _ _ t⟩
  go := fun r h H i ⟨e, n, t⟩ l => ⟨xs, xs[i]'(by rw [t.length]; exact l), SqT.of e, List.getElem?_eq_getElem _⟩
  stop := fun r h H i ⟨e, n, t⟩ l => ⟨xs, SqT.of e, by rw [t.length]; exact l⟩
  yld := fun r S h s H i d x H' ⟨e, n, t⟩ R q y => by
    obtain ⟨rfl, y2⟩ := y
    obtain ⟨v, v1, v2⟩ := t.get q
    have := y2 xs (SqT.of e)
    rw [v1] at this
    cases this
    exact ⟨Grow.refl, v2⟩
theorem di_list {tg l : Expr} {m : DS → M D} (hl : DE X WE l m) : DI X WE tg l (iSeq m) :=
  PI.imp (pi_list hl) fun s H Q ⟨r, S, h, R, p⟩ => ⟨r, S, h, R, p.bd.mono fun d r1 h1 H1 R1 E1 q v dv => by
    cases d with
    | t d =>
      cases d with
      | list ds =>
        cases dv with
        | lst e n t => exact ⟨_, rfl, ⟨_, SqL.of e⟩, q r1 H1 R1 .refl _ _ H1 Grow.refl ⟨e, n, t⟩ itr_list⟩
      | _ => exact False.elim q
    | _ => exact False.elim q⟩
theorem di_tup {tg l : Expr} {m : DS → M D} (hl : DE X WE l m) : DI X WE tg l (iTupl m) :=
  PI.imp (pi_tup hl) fun s H Q ⟨r, S, h, R, p⟩ => ⟨r, S, h, R, p.bd.mono fun d r1 h1 H1 R1 E1 q v dv => by
    cases d with
    | t d =>
      cases d with
      | tuple ds =>
        cases dv with
        | tup e n t => exact ⟨_, rfl, ⟨_, SqT.of e⟩, q r1 H1 R1 .refl _ _ H1 Grow.refl ⟨e, n, t⟩ itr_tup⟩
      | _ => exact False.elim q
    | _ => exact False.elim q⟩
/-- ranges -/
def rngD (lo : Int) (n : Nat) : List PyData := (List.range n).map fun (i : Nat) => .int (lo + (i : Int))
theorem itr_rng {K : PySem.W.Frag} {lo : Int} {n : Nat} : ItR K (rngD lo n) (Itr lo n) (fun _ _ _ => True) where
  keep := fun _ _ _ _ _ _ _ _ => trivial
  go := fun r h H i _ l => by simp [rngD] at l; exact l
  stop := fun r h H i _ l => by simp [rngD] at l; exact l
  yld := fun r S h s H i d x H' _ R q y => by
    obtain ⟨rfl, rfl⟩ := y
    unfold rngD at q
    rw [List.getElem?_map] at q
    have hi : i < n := by
      rcases Nat.lt_or_ge i n with z | z
      · exact z
      · rw [List.getElem?_eq_none (by simpa using z)] at q; cases q
    rw [List.getElem?_range hi] at q
    cases q
    exact ⟨Grow.refl, .int _⟩
def inR (i : Int) : Bool := decide (-(2 ^ 62) ≤ i ∧ i < 2 ^ 62)
def iRg1 (ms : DS → M (List D)) : DS → M (List PyData) := fun S => bd (ms S) fun ds => match ds with
  | [.t (.int j)] => if inR j then ret (rngD 0 j.toNat) else fail
  | _ => fail
def iRg2 (ms : DS → M (List D)) : DS → M (List PyData) := fun S => bd (ms S) fun ds => match ds with
  | [.t (.int i), .t (.int j)] => if inR i && inR j then ret (rngD i (j - i).toNat) else fail
  | _ => fail
theorem di_rg1 {tg a : Expr} {ms : DS → M (List D)} {p : Pos} (hg : Gl X "range") (hm : X.mg "range" = none) (ha : DA X WE [a] ms) (hs : starEach [a] X.env = [(false, eval a X.env)] := by rfl) : DI X WE tg (.Call (.Name "range" p) [a] [] pos) (iRg1 ms) :=
  PI.imp (pi_range1 hg hm ha hs) fun s H Q ⟨r, S, h, R, p⟩ => ⟨r, S, h, R, p.bd.mono fun ds r1 h1 H1 R1 E1 q vs dvs => by
    cases dvs with
    | nil => exact False.elim q
    | cons a1 b1 =>
      rename_i d1 ds1 v1 vs1
      cases b1 with
      | cons a2 b2 => cases d1 with
        | t d => cases d <;> exact False.elim q
        | _ => exact False.elim q
      | nil =>
        cases d1 with
        | t d =>
          cases d with
          | int j =>
            cases a1
            simp only [] at q
            by_cases hj : inR j = true
            · rw [if_pos hj] at q
              have hj2 := of_decide_eq_true hj
              exact ⟨j, rfl, hj2.1, hj2.2, q r1 H1 R1 .refl _ _ H1 Grow.refl trivial itr_rng⟩
            · rw [if_neg hj] at q; exact False.elim q
          | _ => exact False.elim q
        | _ => exact False.elim q⟩
theorem di_rg2 {tg a b : Expr} {ms : DS → M (List D)} {p : Pos} (hg : Gl X "range") (hm : X.mg "range" = none) (ha : DA X WE [a, b] ms) (hs : starEach [a, b] X.env = [(false, eval a X.env), (false, eval b X.env)] := by rfl) (hs2 : starEach [b] X.env = [(false, eval b X.env)] := by rfl) : DI X WE tg (.Call (.Name "range" p) [a, b] [] pos) (iRg2 ms) :=
  PI.imp (pi_range2 hg hm ha hs hs2) fun s H Q ⟨r, S, h, R, p⟩ => ⟨r, S, h, R, p.bd.mono fun ds r1 h1 H1 R1 E1 q vs dvs => by
    have q0 : ∃ i j, ds = [.t (.int i), .t (.int j)] ∧ inR i = true ∧ inR j = true ∧ Post X.K WE r1 S h1 s H1 (ret (rngD i (j - i).toNat) h1) (fun its r' h' H' => ∀ J V H2, Grow H' H2 → V r' h' H2 → ItR X.K its J V → Q J H2) := by
      split at q
      · rename_i i j
        by_cases hj : (inR i && inR j) = true
        · rw [if_pos hj] at q
          rw [Bool.and_eq_true] at hj
          exact ⟨i, j, rfl, hj.1, hj.2, q⟩
        · rw [if_neg hj] at q; exact False.elim q
      · exact False.elim q
    obtain ⟨i, j, rfl, hi, hj, q1⟩ := q0
    cases dvs with
    | cons a1 b1 => cases b1 with
      | cons a2 b2 =>
        cases b2
        cases a1; cases a2
        have hi2 := of_decide_eq_true hi
        have hj2 := of_decide_eq_true hj
        exact ⟨i, j, rfl, ⟨hi2.1, hi2.2, hj2.1, hj2.2⟩, q1 r1 H1 R1 .refl _ _ H1 Grow.refl trivial itr_rng⟩⟩
/-! for -/
def forL (f : PyData → DS → Option DS) (b : SM) : List PyData → SM
  | [] => fun S h => some (.nx, S, h)
  | d :: ds => fun S h => match f d S with
    | none => none
    | some S1 => match b S1 h with
      | some (.nx, S', h') => forL f b ds S' h'
      | some (.ct, S', h') => forL f b ds S' h'
      | some (.bk, S', h') => some (.nx, S', h')
      | x => x
def sFor (m : DS → M (List PyData)) (f : PyData → DS → Option DS) (b : SM) : SM := sB m fun its => forL f b its
theorem ds_for {tg iter : Expr} {body : List Stmt} {m : DS → M (List PyData)} {f : PyData → DS → Option DS} {is : List Nat} {b : SM} (hp : PassesOwn (model X.prog X.w) X.A X.env X.xe) (hc : X.calm = true) (hi : DI X WE tg iter m) (hg : DG X tg f is) (hb : DSs X WE body b) (hs : ∀ x, foldedSetIterable iter X.env x = pure x := by intro _; rfl) : DSt X WE (.For tg iter body [] pos) (sFor m f b) := by
  refine PS.imp (ps_for hp hc hi hg hb hs) fun Z s0 H0 ⟨r, S, h, R, p⟩ => ⟨r, S, h, R, p.sB.mono fun its r1 h1 H1 R1 E1 q J V H2 gr v0 it => ?_⟩
  refine ⟨fun i m s H => i + m = its.length ∧ ∃ r S h, Rel X.K r S h s H ∧ V r h H ∧ PostS X.K WE r h H (forL f b (its.drop i) S h) (fun o r' _ h' s' H' => Fin X.K WE Z r' h' s' H' o), ⟨its.length, Nat.zero_add _, r1, S, h1, R1.grow gr, v0, q.at (.grow gr)⟩, ?_⟩
  rintro i m s H ⟨hm, r, S, h, R, v, q⟩
  by_cases hl : i < its.length
  · refine .inr ⟨it.go _ _ _ i v hl, fun s' H' => ∃ r S h, Rel X.K r S h s' H' ∧ V r h H' ∧ PostS X.K WE r h H' (forL f b (its.drop (i + 1)) S h) (fun o r' _ h' s' H' => Fin X.K WE Z r' h' s' H' o), fun s' H' w => ⟨m - 1, by omega, by omega, w⟩, fun x H' y => ?_⟩
    rw [List.drop_eq_getElem_cons hl] at q
    obtain ⟨gr', t⟩ := it.yld r S h s H i _ x H' v R (List.getElem?_eq_getElem hl) y
    unfold forL at q
    cases e : f its[i] S with
    | none => simp only [e] at q; exact False.elim q
    | some S1 =>
      simp only [e] at q
      have E' : Ext r h H r h H' := .grow gr'
      have v' := it.keep _ _ _ _ _ _ v E'
      refine ⟨r, S, h, _, S1, R.grow gr', t, e, fun s' R' _ => ⟨r, S1, h, R', ?_⟩⟩
      have q' := q.at E'
      cases z : b S1 h with
      | none => rw [z] at q'; exact q'
      | some y =>
        obtain ⟨o, S', h'⟩ := y
        rw [z] at q'
        cases o with
        | nx => exact fun r2 s2 H2 R2 E2 => ⟨r2, S', h', R2, it.keep _ _ _ _ _ _ v' E2, q'.at E2⟩
        | ct => exact fun r2 s2 H2 R2 E2 => ⟨r2, S', h', R2, it.keep _ _ _ _ _ _ v' E2, q'.at E2⟩
        | bk => exact fun r2 s2 H2 R2 E2 => q' r2 s2 H2 R2 E2
        | rt d => exact fun r2 s2 H2 R2 E2 => q' r2 s2 H2 R2 E2
        | er c p => exact fun r2 s2 H2 R2 E2 => q' r2 s2 H2 R2 E2
  · rw [List.drop_eq_nil_of_le (by omega)] at q
    exact .inl ⟨it.stop _ _ _ i v (by omega), q r s H R .refl⟩
/-! list comprehensions -/
def wipeD (S : DS) : List Nat → DS
  | [] => S
  | v :: vs => (wipeD S vs).set v none
theorem Rel.wipe {K : PySem.W.Frag} {r : List Addr} {S : DS} {h : Hd} {s : St} {H : Hp} (R : Rel K r S h s H) : ∀ vs : List Nat, Rel K r (wipeD S vs) h (L2.wipe s vs) H
  | [] => R
  | v :: vs => by
    have R' := R.wipe vs
    refine ⟨R'.nd, R'.len, R'.cell, ?_, fun i d e => ?_⟩
    · show ((wipeD S vs).set v none).length = ((L2.wipe s vs).set v none).length
      rw [List.length_set, List.length_set]; exact R'.slen
    · have e' : ((wipeD S vs).set v none)[i]? = some (some d) := e
      have hv : v ≠ i := by
        intro z
        subst z
        by_cases hl : v < (wipeD S vs).length
        · rw [List.getElem?_set_self hl] at e'; cases e'
        · rw [List.getElem?_eq_none (by simpa using hl)] at e'; cases e'
      rw [List.getElem?_set_ne hv] at e'
      obtain ⟨u, u1, u2⟩ := R'.slot i d e'
      refine ⟨u, ?_, u2⟩
      show ((L2.wipe s vs).set v none)[i]? = some (some u)
      rw [List.getElem?_set_ne hv]; exact u1
def WEF : EW := fun _ _ _ _ _ _ => False
def DTs (X : Cx) (WE : EW) (ifs : List Expr) (t : DS → M Bool) : Prop := PTs X ifs (tDT X.K WE t)
def tYesD : DS → M Bool := fun _ => ret true
theorem dts_nil : DTs X WE [] tYesD := ⟨fun a b c d Q I ⟨r, S, h, R, p⟩ => pts_nil.run a b c d Q I (p r d R .refl)⟩
theorem dts_one {c : Expr} {t : DS → M Bool} (h : DT X WE c t) : DTs X WE [c] t := pts_one h
theorem wipe_len : ∀ (vs : List Nat) (s : St), (L2.wipe s vs).length = s.length
  | [], _ => rfl
  | v :: vs, s => by
    show ((L2.wipe s vs).set v none).length = _
    rw [List.length_set, wipe_len vs s]
theorem wipe_wipe (vs : List Nat) (s : St) : L2.wipe (L2.wipe s vs) vs = L2.wipe s vs := by
  have key : ∀ (ws : List Nat) (s : St), (∀ i ∈ ws, i ∈ vs) → L2.wipe (L2.wipe s ws) vs = L2.wipe s vs := by
    intro ws
    induction ws with
    | nil => intro s _; rfl
    | cons w ws ih =>
      intro s hw
      show L2.wipe ((L2.wipe s ws).set w none) vs = _
      rw [wipe_set (hw w List.mem_cons_self)]
      exact ih s fun i hi => hw i (List.mem_cons_of_mem _ hi)
  exact key vs s fun i hi => hi
theorem Lv.cut {r : List Addr} {h : Hd} {a : Addr} {k : Nat} (l : Lv (r.take k) (h.take k) a) : Lv r h a := by
  obtain ⟨n, c, e1, e2, e3⟩ := l
  rw [List.getElem?_take] at e1 e2
  split at e1
  · rename_i hk
    rw [if_pos hk] at e2
    exact ⟨n, c, e1, e2, e3⟩
  · cases e1
theorem Rel.cut {K : PySem.W.Frag} {r : List Addr} {S : DS} {h : Hd} {s : St} {H : Hp} (R : Rel K r S h s H) (k : Nat) : Rel K (r.take k) [] (h.take k) [] H := by
  have mono : ∀ a o, H a = some o → ¬ Lv r h a → H a = some o ∧ ¬ Lv (r.take k) (h.take k) a := fun a o e n => ⟨e, fun l => n l.cut⟩
  refine ⟨(List.take_sublist k r).nodup R.nd, by rw [List.length_take, List.length_take, R.len], fun n c a e q => ?_, rfl, fun i d e => by simp at e⟩
  rw [List.getElem?_take] at e q
  split at e
  · rename_i hk
    rw [if_pos hk] at q
    have cr := R.cell n c a e q
    cases c with
    | lst ds => obtain ⟨xs, x1, x2⟩ := cr; exact ⟨xs, x1, TRs.mono mono _ _ x2⟩
    | gone d => exact TR.mono mono _ _ cr
  · cases e
theorem Ext.cut {r : List Addr} {h : Hd} {H : Hp} {r1 : List Addr} {h1 : Hd} {H1 : Hp} (E : Ext r h H r1 h1 H1) {k : Nat} (hk : r.length ≤ k) : Ext r h H (r1.take k) (h1.take k) H1 := by
  obtain ⟨e, p⟩ := E.pre
  refine ⟨⟨e.take (k - r.length), ?_⟩, fun a o q n => ⟨(E.keep a o q n).1, fun l => (E.keep a o q n).2 l.cut⟩, fun a o q n m => E.new a o q n (List.mem_of_mem_take m)⟩
  rw [p, List.take_append, List.take_of_length_le hk]
theorem Post.slots {α : Type} {K : PySem.W.Frag} {r : List Addr} {S S1 : DS} {h : Hd} {s s1 : St} {H : Hp} {m : Option (Res α)} {G : α → List Addr → Hd → Hp → Prop} (R : Rel K r S h s H) (p : Post K WEF r S h s H m G) :
    Post K WEF r S1 h s1 H m (fun a r' h' H' => Rel K r' S h' s H' ∧ G a r' h' H') := by
  cases m with
  | none => exact p
  | some x => cases x with
    | ok a h' => exact fun r' H' R2 E => ⟨R.move E R2, p r' H' (R.move E R2) E⟩
    | err c q h' => exact fun r' H' R2 E => p r' H' (R.move E R2) E
def lcL (f : PyData → DS → Option DS) (t : DS → M Bool) (e : DS → M D) (own : List Nat) (S : DS) (n : Nat) : List PyData → M Unit
  | [] => ret ()
  | d :: ds => match f d (wipeD S own) with
    | none => fail
    | some S1 => bd (t S1) fun b => match b with
      | true => bd (e S1) fun y => bd (fz y) fun z => bd (getC n) fun acc => bd (if acc.length < sizeLine then setC n (acc ++ [z]) else fail) fun _ => lcL f t e own S n ds
      | false => lcL f t e own S n ds
def lcFin (c : Bool) (n : Nat) (h : Hd) : Option (Res D) := match h[n]? with
  | some (.lst ds) => (match c with
    | true => some (.ok (.c n) (h.take (n + 1)))
    | false => some (.ok (.t (.list ds)) (h.take n)))
  | _ => none
def lcRun (c : Bool) (m : M Unit) (n : Nat) (h : Hd) : Option (Res D) := match m h with
  | some (.ok _ h') => lcFin c n h'
  | _ => none
def dLc (c : Bool) (m : DS → M (List PyData)) (f : PyData → DS → Option DS) (t : DS → M Bool) (e : DS → M D) (own : List Nat) : DS → M D := fun S => bd (m S) fun its h => lcRun c (lcL f t e own S h.length its) h.length (h ++ [.lst []])
theorem lc_imp {c : Bool} {K : PySem.W.Frag} {m : DS → M (List PyData)} {f : PyData → DS → Option DS} {is own : List Nat} {t : DS → M Bool} {e : DS → M D} (hown : ∀ i ∈ is, i ∈ own) (s : St) (H : Hp) (Q : VK) :
    tD K WE (dLc c m f t e own) s H Q → tLc (tI K WE m) (tG K f is) (tDT K WEF t) (tD K WEF e) own s H Q := by
  rintro ⟨r, S, h, R, p⟩
  refine ⟨r, S, h, R, p.bd.mono fun its r1 h1 H1 R1 E1 q J V H2 gr v0 it A nA => ?_⟩
  have R2 := R1.grow gr
  have E2 : Ext r1 h1 H1 r1 h1 H2 := .grow gr
  obtain ⟨R3, E3⟩ := R2.alloc (p := A) (vs := []) (ds := []) .nil nA
  have rA : (r1 ++ [A])[h1.length]? = some A := by
    rw [← R1.len, List.getElem?_append_right (Nat.le_refl _), Nat.sub_self]
    rfl
  let Fq : Unit → List Addr → Hd → Hp → Prop := fun _ _ h' _ => ∃ d h'', lcFin c h1.length h' = some (.ok d h'') ∧ ∀ r'' H'', Rel K r'' S h'' s H'' → Ext r1 h1 H1 r'' h'' H'' → ∀ v, DR K r'' h'' H'' d v → Q v H''
  have q0 : Post K WEF (r1 ++ [A]) S (h1 ++ [.lst []]) s (upd H2 A (.lst [])) (lcL f t e own S h1.length its (h1 ++ [.lst []])) Fq := by
    unfold lcRun at q
    cases z : lcL f t e own S h1.length its (h1 ++ [.lst []]) with
    | none => rw [z] at q; exact False.elim q
    | some x => cases x with
      | err cc pp hh => rw [z] at q; exact False.elim q
      | ok u h' =>
        rw [z] at q
        intro r' H' R' E'
        simp only [] at q
        cases z2 : lcFin c h1.length h' with
        | none => rw [z2] at q; exact False.elim q
        | some y => cases y with
          | ok d h'' => rw [z2] at q; exact ⟨d, h'', z2, q⟩
          | err cc pp hh =>
            exfalso
            unfold lcFin at z2
            split at z2
            · cases c <;> cases z2
            · cases z2
  refine ⟨fun i k H => i + k = its.length ∧ ∃ r h, Rel K r S h s H ∧ V r h H ∧ r[h1.length]? = some A ∧ Ext r1 h1 H1 r h H ∧ Post K WEF r S h s H (lcL f t e own S h1.length (its.drop i) h) Fq,
    ⟨its.length, Nat.zero_add _, _, _, R3, it.keep _ _ _ _ _ _ v0 E3, rA, E2.trans E3, q0⟩, ?_⟩
  rintro i k H ⟨hk, r, h, R, v, hA, E, q⟩
  have hn : h1.length < h.length := by
    rw [← R.len]
    exact (List.getElem?_eq_some_iff.mp hA).1
  by_cases hl : i < its.length
  · refine .inr ⟨it.go _ _ _ i v hl, fun H => ∃ r h, Rel K r S h s H ∧ V r h H ∧ r[h1.length]? = some A ∧ Ext r1 h1 H1 r h H ∧ Post K WEF r S h s H (lcL f t e own S h1.length (its.drop (i + 1)) h) Fq, fun H' w => ⟨k - 1, by omega, by omega, w⟩, fun x H' y => ?_⟩
    rw [List.drop_eq_getElem_cons hl] at q
    obtain ⟨gr', tt⟩ := it.yld r S h s H i _ x H' v R (List.getElem?_eq_getElem hl) y
    unfold lcL at q
    cases e1 : f its[i] (wipeD S own) with
    | none => simp only [e1] at q; exact False.elim q
    | some S1 =>
      simp only [e1] at q
      have E4 : Ext r h H r h H' := .grow gr'
      have R4 := R.grow gr'
      have v4 := it.keep _ _ _ _ _ _ v E4
      refine ⟨r, wipeD S own, h, _, S1, R4.wipe own, tt, e1, fun s' R5 w5 => ⟨(w5 own hown).trans (wipe_wipe own s), r, S1, h, R5, ?_⟩⟩
      have q1 := (Post.slots (S1 := S1) (s1 := s') R4 (q.at E4).bd)
      refine q1.mono fun b r6 h6 H6 R6 E6 ⟨R6', q6⟩ => ?_
      have A6 : r6[h1.length]? = some A := by
        obtain ⟨l6, p6⟩ := E6.pre
        rw [p6, List.getElem?_append_left (by rw [R.len]; exact hn)]
        exact hA
      cases b with
      | false =>
        simp only []
        rw [if_neg (by simp)]
        exact ⟨r6, h6, R6', it.keep _ _ _ _ _ _ v4 E6, A6, (E.trans E4).trans E6, q6⟩
      | true =>
        simp only []
        rw [if_pos trivial]
        refine ⟨r6, S1, h6, R6, (Post.slots (S1 := S1) (s1 := s') R6' q6.bd).mono fun y r7 h7 H7 R7 E7 ⟨R7', q7⟩ yv dy => ?_⟩
        obtain ⟨z, h8, R8, E8, z1, z2⟩ := fz_ok R7' dy q7.bd
        have A7 : r7[h1.length]? = some A := by
          obtain ⟨l7, p7⟩ := E7.pre
          rw [p7, List.getElem?_append_left (List.getElem?_eq_some_iff.mp A6).1]
          exact A6
        have z3 := z2.bd
        unfold getC at z3
        cases ec : h8[h1.length]? with
        | none => simp only [ec] at z3; exact False.elim z3
        | some cc =>
          cases cc with
          | gone d => simp only [ec] at z3; exact False.elim z3
          | lst acc =>
            simp only [ec] at z3
            have z4 := (z3 r7 H7 R8 .refl).bd
            obtain ⟨xs, x1, x2⟩ := R8.cell _ _ A ec A7
            by_cases ha : acc.length < sizeLine
            · rw [if_pos ha] at z4
              obtain ⟨R9, E9⟩ := R8.wr ec A7 (x2.append (.cons z1 .nil))
              refine ⟨xs, x1, by rw [x2.length]; exact ha, r7, _, R9, it.keep _ _ _ _ _ _ v4 (((E6.trans E7).trans E8).trans E9), A7, ((((E.trans E4).trans E6).trans E7).trans E8).trans E9, ?_⟩
              exact z4 r7 _ R9 E9
            · rw [if_neg ha] at z4; exact False.elim z4
  · rw [List.drop_eq_nil_of_le (by omega)] at q
    refine .inl ⟨it.stop _ _ _ i v (by omega), ?_⟩
    obtain ⟨d, h'', z1, z2⟩ := q r H R .refl
    unfold lcFin at z1
    cases ec : h[h1.length]? with
    | none => rw [ec] at z1; cases z1
    | some cc =>
      cases cc with
      | gone d => rw [ec] at z1; cases z1
      | lst ds =>
        simp only [ec] at z1
        obtain ⟨xs, x1, x2⟩ := R.cell _ _ A ec hA
        cases c with
        | true =>
          cases z1
          have EE := E.cut (k := h1.length + 1) (by rw [R1.len]; omega)
          have RR := R1.move EE (R.cut (h1.length + 1))
          refine z2 _ H RR EE _ ⟨A, ?_, rfl⟩
          rw [List.getElem?_take, if_pos (by omega)]
          exact hA
        | false =>
          cases z1
          have EE := E.cut (k := h1.length) (by rw [R1.len]; omega)
          have RR := R1.move EE (R.cut h1.length)
          refine z2 _ H RR EE _ (.lst x1 (fun l => ?_) (TRs.mono (fun a o e n => ⟨e, fun l => n l.cut⟩) _ _ x2))
          obtain ⟨m, cc, m1, m2, m3⟩ := l
          rw [List.getElem?_take] at m1
          split at m1
          · have := nd_inj R.nd m1 hA
            omega
          · cases m1
theorem de_lc (c : Bool) {elt tg iter : Expr} {ifs : List Expr} {scope : Scope} {own : List (Str × Nat)} {pos : Pos} {m : DS → M (List PyData)} {f : PyData → DS → Option DS} {is : List Nat} {t : DS → M Bool} {e : DS → M D} (hc : X.calm = true) (hN : X.N.Nodup) (hi : DI X WE tg iter m) (ok : BlkOk X.N X.env.scope scope own)
    (hg : ∀ (s : Shared) (H : Hp) (C : Addr) (cl : List (Str × Addr)) (fp : List Addr), DG (X.blk s H scope (compEnvC scope cl C X.env) fp) tg f is)
    (ht : ∀ (s : Shared) (H : Hp) (C : Addr) (cl : List (Str × Addr)) (fp : List Addr), DTs (X.blk s H scope (compEnvC scope cl C X.env) fp) WEF ifs t)
    (he : ∀ (s : Shared) (H : Hp) (C : Addr) (cl : List (Str × Addr)) (fp : List Addr), DE (X.blk s H scope (compEnvC scope cl C X.env) fp) WEF elt e)
    (hown : ∀ i ∈ is, i ∈ own.map (·.2)) (hs : ∀ x, foldedSetIterable iter X.env x = pure x := by intro _; rfl) : DE X WE (.ListComp elt [⟨tg, iter, ifs, 0⟩] scope pos) (dLc c m f t e (own.map (·.2))) :=
  PE.imp (pe_lc (g := tG X.K f is) (tt := tDT X.K WEF t) (te := tD X.K WEF e) hc hN hi ok hg ht he hs) (lc_imp hown)
theorem ds_setLc (c : Bool) {i : Nat} {y : Str} {py spos : Pos} {elt tg iter : Expr} {ifs : List Expr} {scope : Scope} {own : List (Str × Nat)} {pos : Pos} {m : DS → M (List PyData)} {f : PyData → DS → Option DS} {is : List Nat} {t : DS → M Bool} {e : DS → M D} (hc : X.calm = true) (hN : X.N.Nodup) (hy : X.N[i]? = some y) (hyl : X.env.scope.names.lookup y = some .local)
    (hsw : swapsWith (.ListComp elt [⟨tg, iter, ifs, 0⟩] scope pos) (some (.Name y py)) spos.line X.env = pure true) (hi : DI X WE tg iter m) (ok : BlkOk X.N X.env.scope scope own)
    (hg : ∀ (s : Shared) (H : Hp) (C : Addr) (cl : List (Str × Addr)) (fp : List Addr), DG (X.blk s H scope (compEnvC scope cl C X.env) fp) tg f is)
    (ht : ∀ (s : Shared) (H : Hp) (C : Addr) (cl : List (Str × Addr)) (fp : List Addr), DTs (X.blk s H scope (compEnvC scope cl C X.env) fp) WEF ifs t)
    (he : ∀ (s : Shared) (H : Hp) (C : Addr) (cl : List (Str × Addr)) (fp : List Addr), DE (X.blk s H scope (compEnvC scope cl C X.env) fp) WEF elt e)
    (hown : ∀ i ∈ is, i ∈ own.map (·.2)) (hs : ∀ x, foldedSetIterable iter X.env x = pure x := by intro _; rfl) : DSt X WE (.Assign [.Name y py] (.ListComp elt [⟨tg, iter, ifs, 0⟩] scope pos) spos) (sSet i (dLc c m f t e (own.map (·.2)))) :=
  PS.imp (ps_setLc (g := tG X.K f is) (tt := tDT X.K WEF t) (te := tD X.K WEF e) hc hN hy hyl hsw hi ok hg ht he hs) fun Z s H ⟨r, S, h, R, p⟩ => lc_imp hown s H _ ⟨r, S, h, R, p.sB.mono fun d r1 h1 H1 R1 E1 q v dv => q r1 _ H1 (R1.set i dv) .refl⟩
end
end DL
set_option Elab.async false
set_option linter.all false
set_option maxRecDepth 100000
set_option maxHeartbeats 2000000
set_option autoImplicit false
namespace DL
open PySem PySem.Spec L2
open PyProof.Rows hiding St

/-- how a refusal lies: its class, its own dict with the refused value -/
def ErrR (K : PySem.W.Frag) (r : List Addr) (h : Hd) (H : Hp) (c : Str) (p : D) (cls : Value) (d : Option Addr) : Prop :=
  cls = .ref (He.ga K c) ∧ ∃ dd v, d = some dd ∧ H dd = some (.xd [(("value" : Str), v)]) ∧ DR K r h H p v
/-- the layer's wish about exceptions, as HandS has it -/
def wx (K : PySem.W.Frag) (WE : EW) : WX := fun cls d s H => ∃ c p r h S, Rel K r S h s H ∧ ErrR K r h H c p cls d ∧ WE c p r h s H
def PostF (K : PySem.W.Frag) (r : List Addr) (h : Hd) (H : Hp) (m : Option (Res D)) (Q : VK) (E : XK) : Prop := match m with
  | none => False
  | some (.ok d h') => ∀ r' H' v, Rel K r' [] h' [] H' → Ext r h H r' h' H' → DR K r' h' H' d v → Q v H'
  | some (.err c p h') => ∀ r' H' cls d, Rel K r' [] h' [] H' → Ext r h H r' h' H' → ErrR K r' h' H' c p cls d → E cls d H'
/-- a def of the text does what F says -/
structure FnG (P : Program) (w : World) (K : PySem.W.Frag) (mg : Str → Option Value) (base : Heap) (k : Nat) (f : Addr) (fd : FuncData) (ps : List Str) (F : List D → M D) : Prop where
  run : ∀ (A : Around) (outer : List Env) (s : Shared) (H : Hp) (args : Args) (us : List Value) (vs : List V) (r : List Addr) (h : Hd) (ds : List D) (Q : VK) (E : XK),
    Room k A → A.guards = some [] → Env0 P w K mg base A outer s H → us.length = ps.length → BindsTo s fd args (ps.zip us) → Vals vs us → Rel K r [] h [] H → DRs K r h H ds vs → PostF K r h H (F ds h) Q E →
    codeAny (model P w) A (.call (.ref f) args) (CR (L2.CX P w) outer P w H s Q E) s
theorem FnG.mono {P : Program} {w : World} {K : PySem.W.Frag} {mg : Str → Option Value} {base : Heap} {j k : Nat} {f : Addr} {fd : FuncData} {ps : List Str} {F : List D → M D} (G : FnG P w K mg base j f fd ps F) (h : j ≤ k) : FnG P w K mg base k f fd ps F :=
  ⟨fun A outer s H args us vs r hh ds Q E hr => G.run A outer s H args us vs r hh ds Q E (hr.mono h)⟩
theorem DRs.length {K : PySem.W.Frag} {r : List Addr} {h : Hd} {H : Hp} {ds : List D} {vs : List V} (x : DRs K r h H ds vs) : ds.length = vs.length := by
  induction x with
  | nil => rfl
  | cons _ _ ih => simp [ih]
theorem DRs.get {K : PySem.W.Frag} {r : List Addr} {h : Hd} {H : Hp} : ∀ {ds : List D} {vs : List V} {i : Nat} {d : D}, DRs K r h H ds vs → ds[i]? = some d → ∃ v, vs[i]? = some v ∧ DR K r h H d v
  | _, _, _, _, .nil, e => by simp at e
  | _, _, 0, _, .cons a _, e => by simp at e; subst e; exact ⟨_, rfl, a⟩
  | _, _, i + 1, _, .cons _ b, e => by
    obtain ⟨v, h1, h2⟩ := DRs.get (i := i) b (by simpa using e)
    exact ⟨v, by simpa using h1, h2⟩
def startD (n : Nat) (ds : List D) : DS := ds.map some ++ List.replicate (n - ds.length) none
/-- a def's answer leaves its own things behind; c: its own live list may be handed on -/
def outD (c : Bool) (k : Nat) (h : Hd) : D → Option (D × Hd)
  | .c n => if n < k then some (.c n, h.take k) else (match h[n]? with
    | some (.lst ds) => (match c with
      | true => some (.c k, h.take k ++ [.lst ds])
      | false => some (.t (.list ds), h.take k))
    | some (.gone t) => some (.t t, h.take k)
    | none => none)
  | d => some (d, h.take k)
def finD (c : Bool) (k : Nat) : Out × DS × Hd → Option (Res D)
  | (.rt d, _, h) => (outD c k h d).map fun d => .ok d.1 d.2
  | (.nx, _, h) => some (.ok (.t .none) (h.take k))
  | (.er e p, _, h) => (outD false k h p).map fun p => .err e p.1 p.2
  | _ => none
def runF (c : Bool) (n : Nat) (g : SM) : List D → M D := fun ds h => (g (startD n ds) h).bind (finD c h.length)
section
variable {K : PySem.W.Frag} {r r1 : List Addr} {S : DS} {h h1 : Hd} {s : St} {H H1 : Hp}
/-- a live list beside the first k -/
theorem Rel.pick (R : Rel K r S h s H) {k n : Nat} {ds : List PyData} {a : Addr} (hk : k ≤ n) (e : h[n]? = some (.lst ds)) (q : r[n]? = some a) : Rel K (r.take k ++ [a]) [] (h.take k ++ [.lst ds]) [] H ∧ ∀ b, Lv (r.take k ++ [a]) (h.take k ++ [.lst ds]) b → Lv r h b := by
  have hn : n < h.length := (List.getElem?_eq_some_iff.mp e).1
  have lr : (r.take k).length = k := by rw [List.length_take, R.len]; omega
  have lh : (h.take k).length = k := by rw [List.length_take]; omega
  have C := R.cut k
  have sub : ∀ b, Lv (r.take k ++ [a]) (h.take k ++ [.lst ds]) b → Lv r h b := by
    rintro b ⟨m, c, m1, m2, m3⟩
    by_cases hm : m < k
    · rw [List.getElem?_append_left (by omega)] at m1 m2
      exact Lv.cut ⟨m, c, m1, m2, m3⟩
    · rw [List.getElem?_append_right (by omega)] at m1 m2
      rw [lr] at m1
      have h0 : m - k = 0 := by
        rcases Nat.eq_zero_or_pos (m - k) with z | z
        · exact z
        · rw [List.getElem?_eq_none (by simp; omega)] at m1; cases m1
      rw [h0] at m1
      simp at m1
      subst m1
      exact ⟨n, _, q, e, rfl⟩
  have mono : ∀ x o, H x = some o → ¬ Lv r h x → H x = some o ∧ ¬ Lv (r.take k ++ [a]) (h.take k ++ [.lst ds]) x := fun x o e n => ⟨e, fun l => n (sub x l)⟩
  refine ⟨⟨?_, by simp [C.len], fun m c b e' q' => ?_, rfl, fun i d e' => by simp at e'⟩, sub⟩
  · refine List.nodup_append.mpr ⟨C.nd, by simp, fun x hx y hy => ?_⟩
    simp at hy
    subst hy
    intro z
    subst z
    obtain ⟨m, hm, e3⟩ := List.getElem_of_mem hx
    have e4 : r[m]? = some x := by
      have := List.getElem?_eq_getElem hm
      rw [e3, List.getElem?_take] at this
      split at this
      · exact this
      · cases this
    have := nd_inj R.nd e4 q
    omega
  · by_cases hm : m < k
    · rw [List.getElem?_append_left (by omega), List.getElem?_take, if_pos hm] at e' q'
      have cr := R.cell m c b e' q'
      cases c with
      | lst es => obtain ⟨ys, y1, y2⟩ := cr; exact ⟨ys, y1, TRs.mono mono _ _ y2⟩
      | gone d => exact TR.mono mono _ _ cr
    · rw [List.getElem?_append_right (by omega)] at e' q'
      rw [lh] at e'
      rw [lr] at q'
      have h0 : m - k = 0 := by
        rcases Nat.eq_zero_or_pos (m - k) with z | z
        · exact z
        · rw [List.getElem?_eq_none (by simp; omega)] at e'; cases e'
      rw [h0] at e' q'
      simp at e' q'
      subst e'; subst q'
      obtain ⟨ys, y1, y2⟩ := R.cell n _ a e q
      exact ⟨ys, y1, TRs.mono mono _ _ y2⟩
theorem outD_ok {c : Bool} {k : Nat} {d : D} {p : D × Hd} {v : V} {r0 : List Addr} {h0 : Hd} {H0 : Hp} (R : Rel K r S h s H) (E : Ext r0 h0 H0 r h H) (hk : r0.length = k) (x : DR K r h H d v) (e : outD c k h d = some p) : ∃ r', Rel K r' [] p.2 [] H ∧ Ext r0 h0 H0 r' p.2 H ∧ DR K r' p.2 H p.1 v := by
  have mono : ∀ a o, H a = some o → ¬ Lv r h a → H a = some o ∧ ¬ Lv (r.take k) (h.take k) a := fun a o e n => ⟨e, fun l => n l.cut⟩
  have C := R.cut k
  have EC := E.cut (k := k) (by omega)
  cases d with
  | t d => cases e; exact ⟨_, C, EC, TR.mono mono _ _ x⟩
  | s ns =>
    cases e
    obtain ⟨a, rfl, q⟩ := x
    exact ⟨_, C, EC, a, rfl, q.mono mono⟩
  | k u => cases e; exact ⟨_, C, EC, x⟩
  | c n =>
    obtain ⟨a, q, rfl⟩ := x
    simp only [outD] at e
    split at e
    · rename_i hk
      cases e
      exact ⟨_, C, EC, a, by rw [List.getElem?_take, if_pos hk]; exact q, rfl⟩
    · rename_i hnk
      cases ec : h[n]? with
      | none => rw [ec] at e; cases e
      | some cc =>
        rw [ec] at e
        have cr := R.cell n cc a ec q
        cases cc with
        | lst ds =>
          cases c with
          | true =>
            cases e
            obtain ⟨P, sub⟩ := R.pick (k := k) (Nat.le_of_not_lt hnk) ec q
            refine ⟨_, P, ⟨?_, fun b o e1 e2 => ⟨(E.keep b o e1 e2).1, fun l => (E.keep b o e1 e2).2 (sub b l)⟩, fun b o e1 e2 m => ?_⟩, a, ?_, rfl⟩
            · obtain ⟨l, pl⟩ := EC.pre
              exact ⟨l ++ [a], by rw [pl, List.append_assoc]⟩
            · rcases List.mem_append.mp m with m | m
              · exact EC.new b o e1 e2 m
              · simp at m
                subst m
                exact E.new b o e1 e2 (List.mem_of_getElem? q)
            · have lr : (r.take k).length = k := by
                rw [List.length_take, R.len]
                have := (List.getElem?_eq_some_iff.mp ec).1
                omega
              rw [List.getElem?_append_right (by omega), lr, Nat.sub_self]
              rfl
          | false =>
            cases e
            obtain ⟨xs, x1, x2⟩ := cr
            refine ⟨_, C, EC, (show TR K _ H (.ref a) (.list ds) from .lst x1 (fun l => ?_) (TRs.mono mono _ _ x2))⟩
            obtain ⟨m, cc, m1, m2, m3⟩ := l
            rw [List.getElem?_take] at m1
            split at m1
            · have := nd_inj R.nd m1 q
              omega
            · cases m1
        | gone t => cases e; exact ⟨_, C, EC, TR.mono mono _ _ cr⟩
theorem start_rel {N : List Str} {ds : List D} {vs : List V} (R : Rel K r [] h [] H) (x : DRs K r h H ds vs) : Rel K r (startD N.length ds) h (L2.start N vs) H := by
  have hl := x.length
  refine ⟨R.nd, R.len, R.cell, ?_, fun i d e => ?_⟩
  · unfold startD L2.start
    rw [List.length_append, List.length_append, List.length_map, List.length_map, List.length_replicate, List.length_replicate, hl]
  · unfold startD at e
    unfold L2.start
    by_cases hi : i < ds.length
    · rw [List.getElem?_append_left (by rw [List.length_map]; exact hi), List.getElem?_map] at e
      rw [List.getElem?_append_left (by rw [List.length_map]; omega), List.getElem?_map]
      cases q : ds[i]? with
      | none => rw [q] at e; cases e
      | some d' =>
        rw [q] at e
        cases e
        obtain ⟨v, e1, e2⟩ := x.get q
        exact ⟨v, by rw [e1]; rfl, e2⟩
    · rw [List.getElem?_append_right (by rw [List.length_map]; omega), List.getElem?_replicate] at e
      split at e <;> cases e
end
theorem guards_deeper {A : Around} {env : Env} (h : A.guards = some []) : (A.deeper env).guards = some [] := by
  obtain ⟨hd, d, fr, gs, u⟩ := A
  have h' : gs = some [] := h
  subst h'
  rfl
/-- a def by its body -/
theorem fn_g (c : Bool) {P : Program} {w : World} {K : PySem.W.Frag} {mg : Str → Option Value} {base : Heap} {k : Nat} {f : Addr} {fd : FuncData} {x qual : Str} {params : Arguments} {body : List Stmt} {scope : Scope} {dvs : List V} {kws : List (Str × V)} {N ps : List Str} {g : SM}
    (F : FunD K x qual params body scope dvs kws f fd) (S : FnScope N ps scope)
    (hb : ∀ (cdv : Value) (A : Around) (outer : List Env) (s : Shared) (H : Hp) (E : XK) (WE : EW), Room k (A.deeper (envOfC qual scope s.heap.objs.size f cdv)) → (A.deeper (envOfC qual scope s.heap.objs.size f cdv)).guards = some [] →
      Takes (cxOf (L2.CX P w) P w K mg base N qual scope f cdv A outer s H E) (wx K WE) → DSs (cxOf (L2.CX P w) P w K mg base N qual scope f cdv A outer s H E) WE body g) :
    FnG P w K mg base (k + 1) f fd ps (runF c N.length g) := by
  obtain ⟨oc, od, dV, kV, doc, pm, an, cdv, ct, osl, rfl, lk, hcd, _, _⟩ := F.ex
  refine ⟨fun A outer s H args us vs r h ds Q E hr hg e0 hl bt rv R dv pf => ?_⟩
  have hl2 : vs.length = ps.length := by rw [rv.length, hl]
  have kin : K.In s.heap := e0.mod.kin.keeps fun b o q => (e0.bs b o q).1
  have nol : s.heap.NoLimit := e0.mod.nolimit.keeps fun b o q => (e0.bs b o q).1
  have kinds : ∀ y ∈ ps.zip us, scope.names.lookup y.1 = some .local ∨ (scope.names.lookup y.1 = some .cell ∧ ((cellsFrom (s.heap.objs.size + 1) scope.names []).lookup y.1).isSome = true) := by
    rintro ⟨n, v⟩ hy
    cases S.par n (List.of_mem_zip hy).1 with
    | inl q => exact Or.inl q
    | inr q => exact Or.inr ⟨q, PySem.W.cellsFrom_some _ _ _ (Or.inl q)⟩
  refine codeAny_call_function hr.depth (kin _ _ lk) rfl S.co S.gen rfl (PySem.W.codeRec_of kin hcd) (bt _ _ _ _ (wpAny_newFunctionEnv_cells S.kind kinds ?_))
  rintro env rfl s1 hx
  refine ⟨nol.keeps hx.toInCall.keep, codeAny_func ?_⟩
  have J := inv_start (CX := L2.CX P w) (E := E) S hr.hd e0 hl2 rv hx
  have R0 := start_rel (N := N) R dv
  have hbody := hb cdv A outer s H E (fun c p r' h' s' H' => ∀ cls d, ErrR K r' h' H' c p cls d → E cls d H') (hr.deeper _) (guards_deeper hg)
    (Takes.imp (takes_of rfl rfl rfl rfl) fun cls d s' H' ⟨c, p, r', h', S', _, e1, e2⟩ => e2 cls d e1)
  have post : PostS K (fun c p r' h' s' H' => ∀ cls d, ErrR K r' h' H' c p cls d → E cls d H') r h H (g (startD N.length ds) h) (fun o r' _ h' s' H' => Fin K (fun c p r' h' s' H' => ∀ cls d, ErrR K r' h' H' c p cls d → E cls d H') { nx := fun _ H' => Q .non H', rt := Q } r' h' s' H' o) := by
    unfold runF at pf
    cases z : g (startD N.length ds) h with
    | none => rw [z] at pf; exact pf
    | some y =>
      obtain ⟨o, S', h'⟩ := y
      rw [z] at pf
      intro r' s' H' R' E'
      cases o with
      | nx => exact pf _ H' .non (R'.cut h.length) (E'.cut (k := h.length) (by rw [R.len]; exact Nat.le_refl _)) .non
      | rt d =>
        intro v dvv
        cases q : outD c h.length h' d with
        | none => simp only [finD, q, Option.bind, Option.map] at pf; exact False.elim pf
        | some d' =>
          simp only [finD, q, Option.bind, Option.map] at pf
          obtain ⟨r'', R3, E3, D3⟩ := outD_ok R' E' R.len dvv q
          exact pf r'' H' v R3 E3 D3
      | bk => exact pf
      | ct => exact pf
      | er e p =>
        intro cls d er
        cases q : outD false h.length h' p with
        | none => simp only [finD, q, Option.bind, Option.map] at pf; exact False.elim pf
        | some p' =>
          simp only [finD, q, Option.bind, Option.map] at pf
          obtain ⟨e1, dd, v, e2, e3, e4⟩ := er
          obtain ⟨r'', R3, E3, D3⟩ := outD_ok R' E' R.len e4 q
          exact pf r'' H' cls d R3 E3 ⟨e1, dd, v, e2, e3, D3⟩
  refine wpAny_mono (hbody.run [] s1 (L2.start N vs) H _ J ⟨r, startD N.length ds, h, R0, post⟩) (fun fl s' hs => ?_) fun e s' hs => hs
  cases fl with
  | next =>
    obtain ⟨t, H', I, q⟩ := hs
    exact ⟨.non, H', I.os, I.bare, I.base, I.hok, rfl, q⟩
  | ret u =>
    obtain ⟨v, t, H', I, rv', q⟩ := hs
    exact ⟨v, H', I.os, I.bare, I.base, I.hok, rv', q⟩
  | brk =>
    obtain ⟨_, _, _, q⟩ := hs
    exact q.elim
  | cont =>
    obtain ⟨_, _, _, q⟩ := hs
    exact q.elim
/-! calls of defs -/
def dCall (F : List D → M D) (ms : DS → M (List D)) : DS → M D := fun S => bd (ms S) F
/-- g: how positional and keyword values lie by the parameters -/
def dCallK (F : List D → M D) (g : List D → List D → List D) (ms ks : DS → M (List D)) : DS → M D := fun S => bd (ms S) fun a => bd (ks S) fun b => F (g a b)
section
variable {X : Cx} {WE : EW} {k : Nat} {f : Addr} {fd : FuncData} {ps : List Str} {F : List D → M D} {x : Str} {p pos : Pos}
theorem post_call {r : List Addr} {S : DS} {h : Hd} {s : St} {H : Hp} {m : Option (Res D)} {Q : VK} (R : Rel X.K r S h s H) (q : Post X.K WE r S h s H m (fun d r' h' H' => ∀ v, DR X.K r' h' H' d v → Q v H')) :
    PostF X.K r h H m Q (fun cls d H' => wx X.K WE cls d s H') := by
  cases m with
  | none => exact q
  | some y => cases y with
    | ok d h' => exact fun r' H' v R' E' dv => q r' H' (R.move E' R') E' v dv
    | err c z h' => exact fun r' H' cls d R' E' er => ⟨c, z, r', h', S, R.move E' R', er, q r' H' (R.move E' R') E'⟩
theorem run_g {pins : List (Addr × Obj)} {s : Shared} {σ : St} {H : Hp} {r : List Addr} {S : DS} {h : Hd} {args : Args} {us : List Value} {vs : List V} {ds : List D} {Q : VK} (G : FnG X.prog X.w X.K X.mg X.base k f fd ps F) (hr : Room k X.A) (hgd : X.A.guards = some []) (tk : Takes X (wx X.K WE))
    (I : Inv X pins σ H s) (R : Rel X.K r S h σ H) (hl : us.length = ps.length) (bt : BindsTo s fd args (ps.zip us)) (rv : Vals vs us) (dv : DRs X.K r h H ds vs) (q : Post X.K WE r S h σ H (F ds h) (fun d r' h' H' => ∀ v, DR X.K r' h' H' d v → Q v H')) :
    codeAny (model X.prog X.w) X.A (.call (.ref f) args) (fun res s' => match res with
      | .ok (.ret u) => EP X pins σ Q u s'
      | .ok _ => False
      | .error e => X.xe e s') s := by
  refine codeAny_mono (G.run X.A X.stack s H args us vs r h ds Q _ hr hgd I.env0 hl bt rv R.forget dv (post_call R q)) fun res s' hq => ?_
  cases res with
  | error e => exact tk e s' (XE.of_call I (fun cls d H' z => z) hq)
  | ok fl =>
    cases fl with
    | ret u => exact I.after hq
    | next => exact hq
    | brk => exact hq
    | cont => exact hq
theorem de_call {e : Expr} {es : List Expr} {ms : DS → M (List D)} (G : FnG X.prog X.w X.K X.mg X.base k f fd ps F) (hr : Room k X.A) (hgd : X.A.guards = some []) (hg : Gl X x) (hm : X.mg x = some (.ref f)) (hk : PySem.W.keepIn X.K (.ref f) = true) (hb : Binds X.K fd ps []) (tk : Takes X (wx X.K WE)) (ha : DA X WE (e :: es) ms)
    (hlen : ∀ S h ds h', ms S h = some (.ok ds h') → ds.length = ps.length) (hdb : (x == ("__debug__" : Str)) = false := by decide) (he : starEach (e :: es) X.env = (false, eval e X.env) :: starEach es X.env := by rfl) (hpl : (backTo pos (starEach es X.env)).any (·.1) = false := by rfl) :
    DE X WE (.Call (.Name x p) (e :: es) [] pos) (dCall F ms) := by
  refine ⟨fun pins s σ H Q I ⟨r, S, h, R, q⟩ => ?_⟩
  refine wpAny_Call_Name_kw (ld_glob I hg hm ?_ hdb)
  refine PySem.W.callWith_K (h₀ := X.base) I.ok.mod.kin hk (thn (ha.run pos pins s σ H (fun vs H1 => ∃ r1 h1 ds, Rel X.K r1 S h1 σ H1 ∧ ds.length = ps.length ∧ DRs X.K r1 h1 H1 ds vs ∧ Post X.K WE r1 S h1 σ H1 (F ds h1) (fun d r' h' H' => ∀ v, DR X.K r' h' H' d v → Q v H')) I ⟨r, S, h, R, ?_⟩) fun us s1 hh => ?_) he hpl
  · have q' := q.bd
    cases z : ms S h with
    | none => rw [z] at q'; exact q'
    | some y => cases y with
      | ok ds h' =>
        rw [z] at q'
        exact fun r' H' R' E' vs dv => ⟨r', h', ds, R', hlen S h ds h' z, dv, q' r' H' R' E'⟩
      | err c w h' => rw [z] at q'; exact q'
  · obtain ⟨vs, H1, I1, rv, r1, h1, ds, R1, l1, dv, q1⟩ := hh
    refine ⟨I1.kIn, wpAny_call (codeAny_mono (run_g (args := ⟨us, []⟩) G hr hgd tk I1 R1 ?_ ?_ rv dv q1) fun res s' z => ?_)⟩
    · rw [← rv.length, ← dv.length, l1]
    · have z := hb s1 us I1.kIn (by rw [List.append_nil, ← rv.length, ← dv.length, l1])
      rw [List.append_nil] at z
      exact z
    · cases res with
      | error e => exact z
      | ok fl => cases fl with
        | ret u => exact z
        | next => exact z.elim
        | brk => exact z.elim
        | cont => exact z.elim
/-- so many arguments -/
def ANum (ms : DS → M (List D)) (n : Nat) : Prop := ∀ S h ds h', ms S h = some (.ok ds h') → ds.length = n
theorem anum_nil : ANum aNil 0 := fun S h ds h' e => by cases e; rfl
theorem anum_cons {m : DS → M D} {ms : DS → M (List D)} {n : Nat} (a : ANum ms n) : ANum (aCons m ms) (n + 1) := fun S h ds h' e => by
  unfold aCons bd at e
  split at e
  · rename_i d h1 e1
    simp only [] at e
    split at e
    · rename_i ds1 h2 e2
      cases e
      rw [List.length_cons, a S h1 ds1 _ e2]
    · cases e
    · cases e
  · cases e
  · cases e
def DK (X : Cx) (WE : EW) (kws : List Keyword) (m : DS → M (List D)) : Prop := PK X kws (tDA X.K WE m)
theorem PK.imp {X : Cx} {es : List Keyword} {t t' : TA} (p : PK X es t) (i : ∀ s H Q, t' s H Q → t s H Q) : PK X es t' := ⟨fun z a b c d Q I q => p.run z a b c d Q I (i _ _ _ q)⟩
theorem dk_nil : DK X WE [] aNil := PK.imp pk_nil fun s H Q ⟨r, S, h, R, p⟩ => p r H R .refl [] .nil
theorem dk_cons {e : Expr} {kws : List Keyword} {nm : Option Str} {kpos : Pos} {m : DS → M D} {ms : DS → M (List D)} (ha : DE X WE e m) (hr : DK X WE kws ms) : DK X WE (⟨nm, e, kpos⟩ :: kws) (aCons m ms) :=
  PK.imp (pk_cons ha hr) fun s H Q ⟨r0, S, h, R, p⟩ =>
    ⟨r0, S, h, R, p.bd.mono fun a r1 h1 H1 R1 E1 q v dv => ⟨r1, S, h1, R1, q.bd.mono fun b r2 h2 H2 R2 E2 q2 vs dvs => q2 r2 H2 R2 .refl (v :: vs) (.cons (dv.ext E2) dvs)⟩⟩
/-- how a call with keywords binds -/
structure KB (fd : FuncData) (ps ks : List Str) (n : Nat) (gV : List Value → List Value → List Value) (gv : List V → List V → List V) (gD : List D → List D → List D) : Prop where
  to : ∀ (s : Shared) (us ws : List Value), us.length = n → ws.length = ks.length → (gV us ws).length = ps.length ∧ BindsTo s fd ⟨us, ks.zip ws⟩ (ps.zip (gV us ws))
  rel : ∀ {vs : List V} {us : List Value} {zs : List V} {ws : List Value}, vs.length = n → zs.length = ks.length → Vals vs us → Vals zs ws → Vals (gv vs zs) (gV us ws)
  drs : ∀ {K : PySem.W.Frag} {r : List Addr} {h : Hd} {H : Hp} {as bs : List D} {vs zs : List V}, vs.length = n → zs.length = ks.length → DRs K r h H as vs → DRs K r h H bs zs → DRs K r h H (gD as bs) (gv vs zs)
theorem kw_binds {K : PySem.W.Frag} {x qual : Str} {params : Arguments} {body : List Stmt} {scope : Scope} {f : Addr} {fd : FuncData} {ps ks : List Str} {n : Nat} {gV : List Value → List Value → List Value} (F : FunD K x qual params body scope [] [] f fd)
    (h : ∀ (kV doc pm : Value) (an : Option Addr) (cdv ct : Value) (us ws : List Value), us.length = n → ws.length = ks.length → (gV us ws).length = ps.length ∧ bindArgs (PySem.W.fnOf x qual params body scope .none kV doc pm an cdv ct) ⟨us, ks.zip ws⟩ = pure (ps.zip (gV us ws))) :
    ∀ (s : Shared) (us ws : List Value), us.length = n → ws.length = ks.length → (gV us ws).length = ps.length ∧ BindsTo s fd ⟨us, ks.zip ws⟩ (ps.zip (gV us ws)) := by
  intro s us ws h1 h2
  obtain ⟨oc, od, dV, kV, doc, pm, an, cdv, ct, osl, rfl, lk, hcd, dfl, _⟩ := F.ex
  rcases dfl with ⟨_, rfl⟩ | ⟨q, _⟩
  · obtain ⟨a, b⟩ := h kV doc pm an cdv ct us ws h1 h2
    exact ⟨a, BindsTo.of_eq b⟩
  · exact absurd rfl q
theorem de_callK {e : Expr} {es : List Expr} {kws : List Keyword} {ks : List Str} {n : Nat} {gV : List Value → List Value → List Value} {gv : List V → List V → List V} {gD : List D → List D → List D} {ms mk' : DS → M (List D)} (G : FnG X.prog X.w X.K X.mg X.base k f fd ps F) (hr : Room k X.A) (hgd : X.A.guards = some []) (hg : Gl X x) (hm : X.mg x = some (.ref f)) (hk : PySem.W.keepIn X.K (.ref f) = true) (hb : KB fd ps ks n gV gv gD) (tk : Takes X (wx X.K WE))
    (ha : DA X WE (e :: es) ms) (hn : ANum ms n) (hkw : DK X WE kws mk') (hnk : ANum mk' ks.length) (hall : (backToKw pos (keywordEach kws X.env)).all (·.1.isSome) = true := by rfl) (hks : (backToKw pos (keywordEach kws X.env)).filterMap (·.1) = ks := by rfl)
    (hdb : (x == ("__debug__" : Str)) = false := by decide) (he : starEach (e :: es) X.env = (false, eval e X.env) :: starEach es X.env := by rfl) (hpl : ((backTo pos (starEach (e :: es) X.env)).any (·.1) || (backToKw pos (keywordEach kws X.env)).any (·.1.isNone)) = false := by rfl) :
    DE X WE (.Call (.Name x p) (e :: es) kws pos) (dCallK F gD ms mk') := by
  refine ⟨fun pins s σ H Q I ⟨r, S, h, R, q⟩ => ?_⟩
  refine wpAny_Call_Name_kw (ld_glob I hg hm ?_ hdb)
  refine PySem.W.callWith_KW (h₀ := X.base) I.ok.mod.kin hk hall (thn (ha.run pos pins s σ H (fun vs H1 => ∃ r1 h1 ds, Rel X.K r1 S h1 σ H1 ∧ ds.length = n ∧ DRs X.K r1 h1 H1 ds vs ∧ Post X.K WE r1 S h1 σ H1 (bd (mk' S) (fun b => F (gD ds b)) h1) (fun d r' h' H' => ∀ v, DR X.K r' h' H' d v → Q v H')) I ⟨r, S, h, R, ?_⟩) fun us s1 hh => ?_) hpl he
  · have q' := q.bd
    cases z : ms S h with
    | none => rw [z] at q'; exact q'
    | some y => cases y with
      | ok ds h' =>
        rw [z] at q'
        exact fun r' H' R' E' vs dv => ⟨r', h', ds, R', hn S h ds h' z, dv, q' r' H' R' E'⟩
      | err c w h' => rw [z] at q'; exact q'
  · obtain ⟨vs, H1, I1, rv, r1, h1, ds, R1, l1, dv, q1⟩ := hh
    refine thn (hkw.run pos pins s1 σ H1 (fun zs H2 => ∃ r2 h2 bs, Rel X.K r2 S h2 σ H2 ∧ bs.length = ks.length ∧ DRs X.K r2 h2 H2 ds vs ∧ DRs X.K r2 h2 H2 bs zs ∧ Post X.K WE r2 S h2 σ H2 (F (gD ds bs) h2) (fun d r' h' H' => ∀ v, DR X.K r' h' H' d v → Q v H')) I1 ⟨r1, S, h1, R1, ?_⟩) fun ws s2 hh2 => ?_
    · have q' := q1.bd
      cases z : mk' S h1 with
      | none => rw [z] at q'; exact q'
      | some y => cases y with
        | ok bs h' =>
          rw [z] at q'
          exact fun r' H' R' E' zs dz => ⟨r', h', bs, R', hnk S h1 bs h' z, dv.ext E', dz, q' r' H' R' E'⟩
        | err c w h' => rw [z] at q'; exact q'
    · obtain ⟨zs, H2, I2, rz, r2, h2, bs, R2, l2, dv2, dz, q2⟩ := hh2
      rw [hks]
      have lv : vs.length = n := by rw [← dv2.length, l1]
      have lz : zs.length = ks.length := by rw [← dz.length, l2]
      obtain ⟨b1, b2⟩ := hb.to s2 us ws (by rw [← rv.length, lv]) (by rw [← rz.length, lz])
      refine ⟨I2.kIn, wpAny_call (codeAny_mono (run_g (args := ⟨[] ++ us, ks.zip ws⟩) G hr hgd tk I2 R2 b1 b2 (hb.rel lv lz rv rz) (hb.drs lv lz dv2 dz) q2) fun res s' z => ?_)⟩
      cases res with
      | error e => exact z
      | ok fl => cases fl with
        | ret u => exact z
        | next => exact z.elim
        | brk => exact z.elim
        | cont => exact z.elim
theorem de_callK0 {kws : List Keyword} {ks : List Str} {gV : List Value → List Value → List Value} {gv : List V → List V → List V} {gD : List D → List D → List D} {mk' : DS → M (List D)} (G : FnG X.prog X.w X.K X.mg X.base k f fd ps F) (hr : Room k X.A) (hgd : X.A.guards = some []) (hg : Gl X x) (hm : X.mg x = some (.ref f)) (hk : PySem.W.keepIn X.K (.ref f) = true) (hb : KB fd ps ks 0 gV gv gD) (tk : Takes X (wx X.K WE))
    (hkw : DK X WE kws mk') (hnk : ANum mk' ks.length) (hall : (backToKw pos (keywordEach kws X.env)).all (·.1.isSome) = true := by rfl) (hks : (backToKw pos (keywordEach kws X.env)).filterMap (·.1) = ks := by rfl)
    (hdb : (x == ("__debug__" : Str)) = false := by decide) (hpl : ((backTo pos (starEach [] X.env)).any (·.1) || (backToKw pos (keywordEach kws X.env)).any (·.1.isNone)) = false := by rfl) :
    DE X WE (.Call (.Name x p) [] kws pos) (dCallK F gD aNil mk') := by
  refine ⟨fun pins s σ H Q I ⟨r, S, h, R, q⟩ => ?_⟩
  refine wpAny_Call_Name_kw (ld_glob I hg hm ?_ hdb)
  have q1 : Post X.K WE r S h σ H (bd (mk' S) (fun b => F (gD [] b)) h) (fun d r' h' H' => ∀ v, DR X.K r' h' H' d v → Q v H') := q
  refine PySem.W.callWith_KW0 (h₀ := X.base) I.ok.mod.kin hk hall (thn (hkw.run pos pins s σ H (fun zs H2 => ∃ r2 h2 bs, Rel X.K r2 S h2 σ H2 ∧ bs.length = ks.length ∧ DRs X.K r2 h2 H2 bs zs ∧ Post X.K WE r2 S h2 σ H2 (F (gD [] bs) h2) (fun d r' h' H' => ∀ v, DR X.K r' h' H' d v → Q v H')) I ⟨r, S, h, R, ?_⟩) fun ws s2 hh2 => ?_) hpl
  · have q' := q1.bd
    cases z : mk' S h with
    | none => rw [z] at q'; exact q'
    | some y => cases y with
      | ok bs h' =>
        rw [z] at q'
        exact fun r' H' R' E' zs dz => ⟨r', h', bs, R', hnk S h bs h' z, dz, q' r' H' R' E'⟩
      | err c w h' => rw [z] at q'; exact q'
  · obtain ⟨zs, H2, I2, rz, r2, h2, bs, R2, l2, dz, q2⟩ := hh2
    rw [hks]
    have lz : zs.length = ks.length := by rw [← dz.length, l2]
    obtain ⟨b1, b2⟩ := hb.to s2 [] ws rfl (by rw [← rz.length, lz])
    refine ⟨I2.kIn, wpAny_call (codeAny_mono (run_g (args := ⟨[] ++ [], ks.zip ws⟩) G hr hgd tk I2 R2 b1 b2 (hb.rel rfl lz .nil rz) (hb.drs rfl lz .nil dz) q2) fun res s' z => ?_)⟩
    cases res with
    | error e => exact z
    | ok fl => cases fl with
      | ret u => exact z
      | next => exact z.elim
      | brk => exact z.elim
      | cont => exact z.elim
end
/-! the law's own call -/
theorem law_g {P : Program} {w : World} {K : PySem.W.Frag} {mg mb : Str → Option Value} {k : Nat} {fa a : Addr} {fd : FuncData} {x : Str} {F : List D → M D} {s1 : Shared} {vs : List Value} {ns : List Int}
    (KX : K.In s1.heap) (g1 : s1.heap.Ns mainGlobals mg) (g2 : s1.heap.Ns builtinsNs mb) (g3 : ∀ x : Str, x ≠ "__name__" → mb x = bootBuiltins x) (g4 : s1.heap.NoLimit) (g5 : s1.gens = #[])
    (ha : s1.heap.get? a = some { cls := .type "list", data := .seq vs.toArray }) (hi : IntsAre vs ns) (hl : ns.length ≤ sizeLine) (hr : Room k callerA)
    (G : ∀ base : Heap, K.In base → base.Ns mainGlobals mg → FnG P w K mg base k fa fd [x] F) (hb : ∀ (s : Shared) (u : Value), BindsTo s fd ⟨[u], []⟩ [(x, u)]) (hF : F [.s ns] [] = some (.ok (.t (.bool true)) [])) :
    codeAny (model P w) callerA (.call (.ref fa) ⟨[.ref a], []⟩) (fun r s' => r = .ok (.ret (.bool true)) ∧ OldK s1.heap s'.heap ∧ s'.os = s1.os ∧ AllBare s'.gens) s1 := by
  have lv := hi.length
  have rv : Vals (ns.map V.int) vs := vals_ints hi
  let o : Obj := { cls := .type "list", data := .seq vs.toArray }
  -- over any abstract heap that holds the script at most
  have main : ∀ H : Hp, (∀ b u, H b = some u → b = a ∧ u = .frz o (.lst (ns.map V.int)) ∧ K.lookup a = none) → ScR K (Lv [] []) H a ns →
      codeAny (model P w) callerA (.call (.ref fa) ⟨[.ref a], []⟩) (fun r s' => r = .ok (.ret (.bool true)) ∧ OldK s1.heap s'.heap ∧ s'.os = s1.os ∧ AllBare s'.gens) s1 := by
    intro H hH hS
    have none_of : ∀ {b : Addr} {u : Obj}, s1.heap.get? b = some u → (∀ es ep, u.data = .dict es ep → False) ∨ H b = none ∨ H b ≠ none := fun _ => .inr (Classical.em _)
    have dictFree : ∀ {b : Addr} {u : Obj} {es : Array DictEntry} {ep : Nat}, s1.heap.get? b = some u → u.data = .dict es ep → H b = none := by
      intro b u es ep e1 e2
      cases q : H b with
      | none => rfl
      | some z =>
        obtain ⟨rfl, _, _⟩ := hH b z q
        rw [ha] at e1
        cases e1
        exact nomatch (show Data.seq vs.toArray _ = Data.dict es ep from e2)
    have nsH : ∀ {b : Addr} {m : Str → Option Value}, s1.heap.Ns b m → (hidT s1.heap H).Ns b m := by
      rintro b m ⟨u, es, ep, e1, e2, e3⟩
      exact ⟨u, es, ep, hidT_get e1 (dictFree e1 e2), e2, e3⟩
    have kH : K.In (hidT s1.heap H) := by
      intro b u e1
      refine hidT_get (KX b u e1) ?_
      cases q : H b with
      | none => rfl
      | some z =>
        obtain ⟨rfl, _, z3⟩ := hH b z q
        rw [z3] at e1
        cases e1
    have hok : HOk P w H s1.heap := by
      intro b u e1
      obtain ⟨rfl, rfl, _⟩ := hH b u e1
      exact ⟨ha, by rw [List.length_map]; exact hl, vs, _, rv, ha⟩
    have md : Mod K mg (hidT s1.heap H) := ⟨kH, nsH g1, ⟨mb, nsH g2, g3⟩, by
      obtain ⟨mc, c1, c2⟩ := g4
      exact ⟨mc, nsH c1, c2⟩⟩
    have ev : Env0 P w K mg (hidT s1.heap H) callerA [] s1 H :=
      { frames := rfl, mod := md, bs := fun b u e => of_hidT e, bsz := Nat.le_of_eq (hidT_size _ _), funs := trivial, frf := fun b hb => absurd hb (List.not_mem_nil), hok := hok, bare := .of_eq g5 }
    have R : Rel K [] [] [] [] H := ⟨List.nodup_nil, rfl, fun n c b e => by simp at e, rfl, fun i d e => by simp at e⟩
    refine codeAny_mono ((G _ kH (nsH g1)).run callerA [] s1 H ⟨[.ref a], []⟩ [.ref a] [.ref a] [] [] [.s ns] (fun v _ => v = .bl true) (fun _ _ _ => False) hr rfl ev rfl (hb s1 (.ref a)) (.cons rfl .nil) R (.cons ⟨a, rfl, hS⟩ .nil) ?_) fun res s' hq => ?_
    · rw [hF]
      intro r' H' v _ _ dv
      cases dv
      rfl
    · cases res with
      | error e =>
        obtain ⟨_, _, _, _, _, _, _, _, _, _, _, _, z⟩ := hq
        exact z.elim
      | ok fl =>
        cases fl with
        | next => exact hq.elim
        | brk => exact hq.elim
        | cont => exact hq.elim
        | ret u =>
          obtain ⟨v, H', e1, e2, e3, e4, e5, e6⟩ := hq
          obtain rfl : v = .bl true := e6
          obtain rfl : u = Value.bool true := e5
          refine ⟨rfl, OldK.of_keep fun b u e => ?_, e1, e2⟩
          cases q : H b with
          | none => exact e3.keep b u e q (List.not_mem_nil) (List.not_mem_nil)
          | some z =>
            obtain ⟨rfl, rfl, _⟩ := hH b z q
            obtain ⟨y, _⟩ := e4 b _ (e3.frzs b _ _ q)
            rw [ha] at e
            cases e
            exact y
  cases hk : K.lookup a with
  | none =>
    refine main (fun b => if b = a then some (.frz o (.lst (ns.map V.int))) else none) (fun b u e => ?_) (.inl ⟨.inr ⟨o, if_pos rfl⟩, fun l => ?_⟩)
    · split at e
      · rename_i hb
        cases e
        exact ⟨hb, rfl, hk⟩
      · cases e
    · obtain ⟨n, c, e, _⟩ := l
      simp at e
  | some ob =>
    have e := KX a ob hk
    rw [ha] at e
    cases e
    exact main (fun _ => none) (fun b u e => by cases e) (.inr ⟨_, vs.toArray, _, hk, rfl, rfl, rfl, by rw [List.size_toArray, lv]; exact hl, by simpa using rv⟩)
theorem walk_g {l : PySem.W.OpenLaw} {n k : Nat} {q : Program} {loose : List Str} {XP : (Str → Option Value) → Heap → Prop} {YP : World → Heap → Prop} {d : DefRec} {x : Str}
    (hn : l.most = some n) (hn2 : n ≤ sizeLine) (hdf : d.params.defaults = []) (hr : Room k callerA)
    (T : ∀ (w : World) (mg : Str → Option Value) (fa : Addr) (h : Heap), YP w h → h.Ns mainGlobals mg → mg d.name = some (.ref fa) →
      ∃ (K : PySem.W.Frag) (fd : FuncData) (F : List D → M D), K.In h ∧ (∀ (s : Shared) (u : Value), BindsTo s fd ⟨[u], []⟩ [(x, u)]) ∧
        (∀ ns : List Int, ns.length ≤ n → F [.s ns] [] = some (.ok (.t (.bool true)) [])) ∧ ∀ base : Heap, K.In base → base.Ns mainGlobals mg → FnG l.prog w K mg base k fa fd [x] F) :
    PySem.W.WalkO q loose XP YP l.row.toRowW d [] (fun f vs => PySem.call f vs) :=
  Att.attach_call hn hdf fun w s0 s1 mg mb fa o pm cd doc a vs ns G Y ho hd hcd hmg hobj hints hlen hg => by
    obtain ⟨K, fd, F, KX, hb, hF, hG⟩ := T w mg fa _ Y G.T.g hmg
    exact law_g KX G.T.g G.T.b G.T.builtins G.T.nolimit hg hobj hints (Nat.le_trans hlen hn2) hr hG hb (hF ns hlen)
end DL
set_option Elab.async false
set_option linter.all false
set_option maxRecDepth 100000
set_option maxHeartbeats 2000000
set_option autoImplicit false
namespace DL
open PySem PySem.Spec L2
open PyProof.Rows hiding St

/-- a text by its codes -/
abbrev tx (l : List Nat) : Str := ⟨l.toArray⟩
theorem tx_len (l : List Nat) : (tx l).length = l.length := by show l.toArray.size = _; simp
theorem tx_list (l : List Nat) : (tx l).cps.toList = l := by simp
theorem tx_of (x : Str) : tx x.cps.toList = x := by cases x; simp
theorem tx_add (l m : List Nat) : tx l ++ tx m = tx (l ++ m) := by
  show (⟨l.toArray ++ m.toArray⟩ : Str) = _
  simp
/-! arithmetic -/
def okI (i : Int) : Bool := decide (-(2 ^ 63) ≤ i ∧ i < 2 ^ 63)
def repS (x : Str) (k : Nat) : Str := tx (List.replicate k x.cps.toList).flatten
def addP : PyData → PyData → Option PyData
  | .int i, .int j => some (.int (i + j))
  | .str a, .str b => if a.length + b.length ≤ sizeLine then some (.str (a ++ b)) else none
  | .list a, .list b => if a.length + b.length ≤ sizeLine then some (.list (a ++ b)) else none
  | .tuple a, .tuple b => if a.length + b.length ≤ sizeLine then some (.tuple (a ++ b)) else none
  | _, _ => none
def subP : PyData → PyData → Option PyData
  | .int i, .int j => some (.int (i - j))
  | _, _ => none
def mulP : PyData → PyData → Option PyData
  | .int i, .int j => if i.natAbs.log2 + j.natAbs.log2 < 1000000 then some (.int (i * j)) else none
  | .str x, .int n => if okI n && decide (x.length * n.toNat ≤ sizeLine) then some (.str (repS x n.toNat)) else none
  | .list ds, .int n => if okI n && decide (ds.length * n.toNat ≤ sizeLine) then some (.list (List.replicate n.toNat ds).flatten) else none
  | _, _ => none
def fdivP : PyData → PyData → Option PyData
  | .int i, .int j => if 0 < j ∧ j.natAbs.log2 < 9000 then some (.int (i / j)) else none
  | _, _ => none
def modP : PyData → PyData → Option PyData
  | .int i, .int j => if 0 < j then some (.int (i % j)) else none
  | _, _ => none
def powP : PyData → PyData → Option PyData
  | .int i, .int j => if 0 ≤ j ∧ (Builtin.Int.intBits i : Int) * j ≤ 2 ^ 27 then some (.int (i ^ j.toNat)) else none
  | _, _ => none
def negP : PyData → Option PyData
  | .int i => some (.int (-i))
  | _ => none
def ltP : PyData → PyData → Option PyData
  | .int i, .int j => some (.bool (decide (i < j)))
  | .str a, .str b => some (.bool (decide (a.cps.toList < b.cps.toList)))
  | _, _ => none
def gtP : PyData → PyData → Option PyData
  | .int i, .int j => some (.bool (decide (j < i)))
  | .str a, .str b => some (.bool (decide (b.cps.toList < a.cps.toList)))
  | _, _ => none
def leP : PyData → PyData → Option PyData
  | .int i, .int j => some (.bool (decide (i ≤ j)))
  | .str a, .str b => some (.bool (!decide (b.cps.toList < a.cps.toList)))
  | _, _ => none
def geP : PyData → PyData → Option PyData
  | .int i, .int j => some (.bool (decide (j ≤ i)))
  | .str a, .str b => some (.bool (!decide (a.cps.toList < b.cps.toList)))
  | _, _ => none
def eqP : PyData → PyData → Option PyData
  | .str a, .str b => some (.bool (decide (a = b)))
  | a, b => if SeqAt.shaped a && SeqAt.shaped b then some (.bool (PyData.eqv a b)) else none
def neP : PyData → PyData → Option PyData
  | .str a, .str b => some (.bool (!decide (a = b)))
  | a, b => if SeqAt.shaped a && SeqAt.shaped b then some (.bool (!PyData.eqv a b)) else none
section
variable {K : PySem.W.Frag} {X : Cx}
theorem newL {L : Addr → Prop} {H : Hp} {p : Addr} {vs : List V} {ds : List PyData} {Q : VK} (hL : ∀ p, L p → ∃ o, H p = some o) (np : H p = none) (t : TRs K L H vs ds) (k : ∀ v H', Grow H H' → TR K L H' v (.list ds) → Q v H') : Q (.ref p) (upd H p (.lst vs)) := by
  have g : Grow H (upd H p (.lst vs)) := Grow.upd np
  exact k _ _ g (.lst upd_same (fun l => by obtain ⟨o, q⟩ := hL p l; rw [np] at q; cases q) (TRs.mono (fun a o e n => ⟨g a o e, n⟩) _ _ t))
theorem newT {L : Addr → Prop} {H : Hp} {p : Addr} {vs : List V} {ds : List PyData} {Q : VK} (hL : ∀ p, L p → ∃ o, H p = some o) (np : H p = none) (t : TRs K L H vs ds) (k : ∀ v H', Grow H H' → TR K L H' v (.tuple ds) → Q v H') : Q (.ref p) (upd H p (.tup vs)) := by
  have g : Grow H (upd H p (.tup vs)) := Grow.upd np
  exact k _ _ g (.tup upd_same (fun l => by obtain ⟨o, q⟩ := hL p l; rw [np] at q; cases q) (TRs.mono (fun a o e n => ⟨g a o e, n⟩) _ _ t))
theorem PureD.or {r r' : R2} {g : PyData → PyData → Option PyData} {g1 g2 : PyData → PyData → Bool} (h : PureD K r fun a b => if g1 a b then g a b else none) (h' : PureD K r' fun a b => if g1 a b then none else g a b) : PureD K (fun x y H Q => r x y H Q ∨ r' x y H Q) g := by
  intro L H x y a b z Q hL wa wb e k
  cases q : g1 a b with
  | true => exact .inl (h L H x y a b z Q hL wa wb (by simp [q, e]) k)
  | false => exact .inr (h' L H x y a b z Q hL wa wb (by simp [q, e]) k)
/-- the rule of + -/
def rAddA (K : PySem.W.Frag) : R2 := fun x y H Q => (rI0 (fun i j => .int (i + j)) x y H Q ∨ (∃ i j, x = .str i ∧ y = .str j ∧ i.length + j.length ≤ sizeLine ∧ Q (.str (i ++ j)) H)) ∨ (rCat x y H Q ∨ rCatA K x y H Q)
theorem op_addA : OpR X (binaryOp .Add) (rAddA X.K) := (op_add.or op_add_str).or (op_cat.or op_catA)
theorem pd_add : PureD K (rAddA K) addP := by
  intro L H x y a b z Q hL wa wb e k
  unfold addP at e
  split at e
  · cases wa; cases wb; cases e
    exact .inl (.inl ⟨_, _, rfl, rfl, k _ H Grow.refl (.int _)⟩)
  · cases wa; cases wb
    split at e
    · rename_i hl
      cases e
      exact .inl (.inr ⟨_, _, rfl, rfl, hl, k _ H Grow.refl (.str _)⟩)
    · cases e
  · obtain ⟨a1, xs, rfl, e1, t1⟩ := wa
    obtain ⟨a2, ys, rfl, e2, t2⟩ := wb
    split at e
    · rename_i hl
      cases e
      refine .inr (.inl ⟨a1, a2, xs, ys, rfl, rfl, e1, e2, by rw [t1.length, t2.length]; exact hl, fun p np => ?_⟩)
      exact newL hL np (t1.append t2) k
    · cases e
  · cases wa with
    | tup e1 n1 t1 => cases wb with
      | tup e2 n2 t2 =>
        split at e
        · rename_i hl
          cases e
          refine .inr (.inr ⟨_, _, _, _, rfl, rfl, SqT.of e1, SqT.of e2, by rw [t1.length, t2.length]; exact hl, fun z => ?_, fun _ z => ?_, fun _ z p np => ?_⟩)
          · subst z
            cases t1
            exact k _ H Grow.refl (.tup e2 n2 t2)
          · subst z
            cases t2
            rw [List.append_nil] at k
            exact k _ H Grow.refl (.tup e1 n1 t1)
          · exact newT hL np (t1.append t2) k
        · cases e
  · cases e
theorem pd_sub : PureD K (rI0 fun i j => .int (i - j)) subP := by
  intro L H x y a b z Q hL wa wb e k
  unfold subP at e
  split at e
  · cases wa; cases wb; cases e
    exact ⟨_, _, rfl, rfl, k _ H Grow.refl (.int _)⟩
  · cases e
/-- a text so many times -/
theorem op_repS : OpR X (binaryOp .Mult) (fun x y H Q => ∃ z n, x = .str z ∧ y = .int n ∧ okI n = true ∧ z.length * n.toNat ≤ sizeLine ∧ Q (.str (repS z n.toNat)) H) := by
  intro pins s σ H x y v u Q I rx ry h
  obtain ⟨z, n, rfl, rfl, h1, h2, q⟩ := h
  obtain ⟨t, rfl⟩ := rx
  obtain ⟨t', rfl⟩ := ry
  have h3 := of_decide_eq_true h1
  refine P.mul_str ?_ ?_ ?_ ?_
  · rw [decide_eq_false (by omega), decide_eq_false (by omega)]; rfl
  · intro a b c
    have hz : z.length ≠ 0 := by
      intro w
      rw [w] at b
      simp at b
    have h5 : (2 ^ 63 - 1) / n * n ≤ 2 ^ 63 - 1 := Int.ediv_mul_le _ (by omega)
    have h4 : (z.length : Int) * n ≤ sizeLine := by
      have : ((z.length * n.toNat : Nat) : Int) = (z.length : Int) * n := by
        rw [Int.natCast_mul, Int.toNat_of_nonneg (by omega)]
      omega
    have h6 : (2 ^ 63 - 1) / n ≥ (z.length : Int) := by
      rw [ge_iff_le, Int.le_ediv_iff_mul_le (by omega)]
      have h7 : (sizeLine : Int) ≤ 2 ^ 63 - 1 := by rw [sizeLine_eq]; decide
      omega
    omega
  · intro a b
    show decide (z.length * n.toNat > sizeLine) = false
    rw [decide_eq_false (by omega)]
  · have hz : ∀ (k : Nat) (acc : Array Nat), (List.replicate k z.cps).foldl (· ++ ·) acc = (acc.toList ++ (List.replicate k z.cps.toList).flatten).toArray := by
      intro k
      induction k with
      | zero => intro acc; simp
      | succ k ih =>
        intro acc
        rw [List.replicate_succ, List.foldl_cons, ih, List.replicate_succ, List.flatten_cons]
        simp
    split
    · rename_i h4
      have e0 : n.toNat = 0 := by omega
      rw [e0] at q
      exact ⟨by decide, ⟨.str (repS z 0), _, I.tok _, ⟨_, rfl⟩, q⟩⟩
    · split
      · rename_i h4 h5
        have e0 : repS z n.toNat = z := by
          unfold repS
          rw [Bool.or_eq_true] at h5
          rcases h5 with h5 | h5
          · have : n = 1 := by simpa using h5
            subst this
            simp [tx_of]
          · have : z.cps.toList = [] := by
              have : z.length = 0 := by simpa using h5
              exact List.eq_nil_of_length_eq_zero (by simpa [Str.length] using this)
            rw [this]
            have e1 : (List.replicate n.toNat ([] : List Nat)).flatten = [] := by simp
            rw [e1, ← this, tx_of]
        rw [e0] at q
        exact ⟨.str z, _, I, ⟨_, rfl⟩, q⟩
      · rename_i h4 h5
        have e9 : (⟨(List.replicate n.toNat z.cps).foldl (· ++ ·) #[]⟩ : Str) = repS z n.toNat := by
          rw [hz]
          simp [repS]
        rw [e9]
        refine ⟨?_, ⟨.str (repS z n.toNat), _, I.tok _, ⟨_, rfl⟩, q⟩⟩
        · unfold repS
          show (List.toArray _).size ≤ sizeLine
          simp only [List.size_toArray, Array.toList_empty, List.nil_append, List.length_flatten, List.map_replicate, List.sum_replicate_nat]
          have : z.cps.toList.length = z.length := by simp [Str.length]
          rw [this, Nat.mul_comm]
          exact h2
def rMulA (K : PySem.W.Frag) : R2 := fun x y H Q => (rI CMulW (fun i j => .int (i * j)) x y H Q ∨ (∃ z n, x = .str z ∧ y = .int n ∧ okI n = true ∧ z.length * n.toNat ≤ sizeLine ∧ Q (.str (repS z n.toNat)) H)) ∨ rRep x y H Q
theorem op_mulA : OpR X (binaryOp .Mult) (rMulA X.K) := (op_mulW.or op_repS).or op_rep
theorem okI_of {n : Int} (h : okI n = true) : -(2 ^ 63) ≤ n ∧ n < 2 ^ 63 := of_decide_eq_true h
theorem pd_mul : PureD K (rMulA K) mulP := by
  intro L H x y a b z Q hL wa wb e k
  unfold mulP at e
  split at e
  · cases wa; cases wb
    split at e
    · rename_i hl
      cases e
      exact .inl (.inl ⟨_, _, rfl, rfl, hl, k _ H Grow.refl (.int _)⟩)
    · cases e
  · cases wa; cases wb
    split at e
    · rename_i hl
      cases e
      rw [Bool.and_eq_true] at hl
      exact .inl (.inr ⟨_, _, rfl, rfl, hl.1, of_decide_eq_true hl.2, k _ H Grow.refl (.str _)⟩)
    · cases e
  · obtain ⟨a1, xs, rfl, e1, t1⟩ := wa
    cases wb
    split at e
    · rename_i hl
      cases e
      rw [Bool.and_eq_true] at hl
      exact .inr ⟨a1, _, xs, rfl, rfl, e1, (okI_of hl.1).1, (okI_of hl.1).2, by rw [t1.length]; exact of_decide_eq_true hl.2, fun p np => newL hL np (t1.rep _) k⟩
    · cases e
  · cases e
theorem pd_fdiv : PureD K (rI CDivW fun i j => .int (i / j)) fdivP := by
  intro L H x y a b z Q hL wa wb e k
  unfold fdivP at e
  split at e
  · cases wa; cases wb
    split at e
    · rename_i hl
      cases e
      exact ⟨_, _, rfl, rfl, hl, k _ H Grow.refl (.int _)⟩
    · cases e
  · cases e
theorem pd_mod : PureD K (rI (fun _ j => 0 < j) fun i j => .int (i % j)) modP := by
  intro L H x y a b z Q hL wa wb e k
  unfold modP at e
  split at e
  · cases wa; cases wb
    split at e
    · rename_i hl
      cases e
      exact ⟨_, _, rfl, rfl, hl, k _ H Grow.refl (.int _)⟩
    · cases e
  · cases e
def CPowX (i j : Int) : Prop := 0 ≤ j ∧ (Builtin.Int.intBits i : Int) * j ≤ 2 ^ 27
theorem op_powX : OpR X (binaryOp .Pow) (rI CPowX fun i j => .int (i ^ j.toNat)) := opI fun _ _ _ _ _ _ _ hc q => pow_int hc.1 hc.2 q
theorem pd_pow : PureD K (rI CPowX fun i j => .int (i ^ j.toNat)) powP := by
  intro L H x y a b z Q hL wa wb e k
  unfold powP at e
  split at e
  · cases wa; cases wb
    split at e
    · rename_i hl
      cases e
      exact ⟨_, _, rfl, rfl, hl, k _ H Grow.refl (.int _)⟩
    · cases e
  · cases e
theorem pu_neg : PureU K (rU fun i => .int (-i)) negP := by
  intro L H x a z Q hL wa e k
  unfold negP at e
  split at e
  · cases wa; cases e
    exact ⟨_, rfl, k _ H Grow.refl (.int _)⟩
  · cases e
def rOrd (p : Int → Int → Bool) (q : Str → Str → Bool) : R2 := fun x y H Q => rI0 (fun i j => .bl (p i j)) x y H Q ∨ ∃ i j, x = .str i ∧ y = .str j ∧ Q (.bl (q i j)) H
theorem pd_ord {p : Int → Int → Bool} {q : Str → Str → Bool} {g : PyData → PyData → Option PyData} (hg : ∀ a b z, g a b = some z → (∃ i j, a = .int i ∧ b = .int j ∧ z = .bool (p i j)) ∨ ∃ i j, a = .str i ∧ b = .str j ∧ z = .bool (q i j)) : PureD K (rOrd p q) g := by
  intro L H x y a b z Q hL wa wb e k
  rcases hg a b z e with ⟨i, j, rfl, rfl, rfl⟩ | ⟨i, j, rfl, rfl, rfl⟩
  · cases wa; cases wb
    exact .inl ⟨_, _, rfl, rfl, k _ H Grow.refl (.bl _)⟩
  · cases wa; cases wb
    exact .inr ⟨_, _, rfl, rfl, k _ H Grow.refl (.bl _)⟩
theorem op_ltA : OpR X (compareOp .Lt) (rOrd (fun i j => decide (i < j)) fun a b => decide (a.cps.toList < b.cps.toList)) := op_lt.or op_lt_str
theorem op_gtA : OpR X (compareOp .Gt) (rOrd (fun i j => decide (j < i)) fun a b => decide (b.cps.toList < a.cps.toList)) := op_gt.or op_gt_str
theorem op_leA : OpR X (compareOp .LtE) (rOrd (fun i j => decide (i ≤ j)) fun a b => !decide (b.cps.toList < a.cps.toList)) := op_le.or op_le_str
theorem op_geA : OpR X (compareOp .GtE) (rOrd (fun i j => decide (j ≤ i)) fun a b => !decide (a.cps.toList < b.cps.toList)) := op_ge.or op_ge_str
theorem pd_lt : PureD K (rOrd (fun i j => decide (i < j)) fun a b => decide (a.cps.toList < b.cps.toList)) ltP := pd_ord fun a b z e => by
  unfold ltP at e
  split at e
  · cases e; exact .inl ⟨_, _, rfl, rfl, rfl⟩
  · cases e; exact .inr ⟨_, _, rfl, rfl, rfl⟩
  · cases e
theorem pd_gt : PureD K (rOrd (fun i j => decide (j < i)) fun a b => decide (b.cps.toList < a.cps.toList)) gtP := pd_ord fun a b z e => by
  unfold gtP at e
  split at e
  · cases e; exact .inl ⟨_, _, rfl, rfl, rfl⟩
  · cases e; exact .inr ⟨_, _, rfl, rfl, rfl⟩
  · cases e
theorem pd_le : PureD K (rOrd (fun i j => decide (i ≤ j)) fun a b => !decide (b.cps.toList < a.cps.toList)) leP := pd_ord fun a b z e => by
  unfold leP at e
  split at e
  · cases e; exact .inl ⟨_, _, rfl, rfl, rfl⟩
  · cases e; exact .inr ⟨_, _, rfl, rfl, rfl⟩
  · cases e
theorem pd_ge : PureD K (rOrd (fun i j => decide (j ≤ i)) fun a b => !decide (a.cps.toList < b.cps.toList)) geP := pd_ord fun a b z e => by
  unfold geP at e
  split at e
  · cases e; exact .inl ⟨_, _, rfl, rfl, rfl⟩
  · cases e; exact .inr ⟨_, _, rfl, rfl, rfl⟩
  · cases e
def rEqA (K : PySem.W.Frag) : R2 := fun x y H Q => rEq x y H Q ∨ rEqD K x y H Q
theorem op_eqA {X : Cx} (hu : X.A.units + 64 < cLine) : OpR X (compareOp .Eq) (rEqA X.K) := op_eq.or (op_eqD hu)
theorem pd_eq : PureD K (rEqA K) eqP := by
  intro L H x y a b z Q hL wa wb e k
  unfold eqP at e
  split at e
  · cases wa; cases wb; cases e
    exact .inl ⟨rfl, by simpa using k _ H Grow.refl (.bl _)⟩
  split at e
  · rename_i h
    rw [Bool.and_eq_true] at h
    cases e
    exact .inr ⟨_, _, wa.dp, wb.dp, h.1, h.2, k _ H Grow.refl (.bl _)⟩
  · cases e
def rNeA (K : PySem.W.Frag) : R2 := fun x y H Q => rNe x y H Q ∨ rNeD K x y H Q
theorem op_neA {X : Cx} (hu : X.A.units + 64 < cLine) : OpR X (compareOp .NotEq) (rNeA X.K) := op_ne.or (op_neD hu)
theorem pd_ne : PureD K (rNeA K) neP := by
  intro L H x y a b z Q hL wa wb e k
  unfold neP at e
  split at e
  · cases wa; cases wb; cases e
    exact .inl ⟨rfl, by simpa using k _ H Grow.refl (.bl _)⟩
  split at e
  · rename_i h
    rw [Bool.and_eq_true] at h
    cases e
    exact .inr ⟨_, _, wa.dp, wb.dp, h.1, h.2, k _ H Grow.refl (.bl _)⟩
  · cases e
/-- is None, True, False -/
def isP : PyData → PyData → Option PyData
  | .none, .none => some (.bool true)
  | _, .none => some (.bool false)
  | .bool a, .bool b => some (.bool (decide (a = b)))
  | _, _ => none
def isNotP : PyData → PyData → Option PyData
  | .none, .none => some (.bool false)
  | _, .none => some (.bool true)
  | .bool a, .bool b => some (.bool (!decide (a = b)))
  | _, _ => none
def nonP : PyData → Bool
  | .none => true
  | _ => false
theorem nn_dec {x : V} {a : PyData} {L : Addr → Prop} {H : Hp} (w : WR K L H x a) : decide (x = .non) = nonP a := by
  cases a with
  | none => cases w; rfl
  | bool b => cases w; rfl
  | int i => cases w; rfl
  | str s => cases w; rfl
  | list ds => obtain ⟨_, _, rfl, _⟩ := w; rfl
  | tuple ds => cases w; rfl
  | dict kvs => cases w
theorem op_isA : OpR X (compareOp .Is) (fun x y H Q => (y = .non ∧ Q (.bl (decide (x = .non))) H) ∨ ∃ a b, x = .bl a ∧ y = .bl b ∧ Q (.bl (decide (a = b))) H) := op_isN.or op_is_bl
theorem op_isNotA : OpR X (compareOp .IsNot) (fun x y H Q => (y = .non ∧ Q (.bl (!decide (x = .non))) H) ∨ ∃ a b, x = .bl a ∧ y = .bl b ∧ Q (.bl (!decide (a = b))) H) := op_notN.or op_isnot_bl
theorem pd_is : PureD K (fun x y H Q => (y = .non ∧ Q (.bl (decide (x = .non))) H) ∨ ∃ a b, x = .bl a ∧ y = .bl b ∧ Q (.bl (decide (a = b))) H) isP := by
  intro L H x y a b z Q hL wa wb e k
  have hn := nn_dec wa
  unfold isP at e
  split at e
  · cases wb; cases e
    refine .inl ⟨rfl, ?_⟩
    rw [hn]; exact k _ H Grow.refl (.bl _)
  · rename_i hne
    cases wb; cases e
    refine .inl ⟨rfl, ?_⟩
    rw [hn]
    have e0 : nonP a = false := by
      cases a with
      | none => exact absurd rfl hne
      | _ => rfl
    rw [e0]
    exact k _ H Grow.refl (.bl _)
  · cases wa; cases wb; cases e
    exact .inr ⟨_, _, rfl, rfl, k _ H Grow.refl (.bl _)⟩
  · cases e
theorem pd_isNot : PureD K (fun x y H Q => (y = .non ∧ Q (.bl (!decide (x = .non))) H) ∨ ∃ a b, x = .bl a ∧ y = .bl b ∧ Q (.bl (!decide (a = b))) H) isNotP := by
  intro L H x y a b z Q hL wa wb e k
  have hn := nn_dec wa
  unfold isNotP at e
  split at e
  · cases wb; cases e
    refine .inl ⟨rfl, ?_⟩
    rw [hn]; exact k _ H Grow.refl (.bl _)
  · rename_i hne
    cases wb; cases e
    refine .inl ⟨rfl, ?_⟩
    rw [hn]
    have e0 : nonP a = false := by
      cases a with
      | none => exact absurd rfl hne
      | _ => rfl
    rw [e0]
    exact k _ H Grow.refl (.bl _)
  · cases wa; cases wb; cases e
    exact .inr ⟨_, _, rfl, rfl, k _ H Grow.refl (.bl _)⟩
  · cases e
/-- texts: in, not in -/
def inSP : PyData → PyData → Option PyData
  | .str a, .str b => match a.cps.toList with
    | [c] => some (.bool (decide (c ∈ b.cps.toList)))
    | _ => none
  | _, _ => none
def notInSP : PyData → PyData → Option PyData
  | .str a, .str b => match a.cps.toList with
    | [c] => some (.bool (!decide (c ∈ b.cps.toList)))
    | _ => none
  | _, _ => none
theorem one_sign {a : Str} {c : Nat} (h : a.cps.toList = [c]) : a = ⟨#[c]⟩ := by
  obtain ⟨a⟩ := a
  have : a.toList.toArray = [c].toArray := by rw [show a.toList = [c] from h]
  simp at this
  rw [this]
theorem pd_inS : PureD K (fun x y H Q => ∃ (c : Nat) (z : Str), x = .str ⟨#[c]⟩ ∧ y = .str z ∧ Q (.bl (decide (c ∈ z.cps.toList))) H) inSP := by
  intro L H x y a b z Q hL wa wb e k
  unfold inSP at e
  split at e
  · split at e
    · rename_i h
      cases wa; cases wb; cases e
      exact ⟨_, _, by rw [one_sign h], rfl, k _ H Grow.refl (.bl _)⟩
    · cases e
  · cases e
theorem pd_notInS : PureD K (fun x y H Q => ∃ (c : Nat) (z : Str), x = .str ⟨#[c]⟩ ∧ y = .str z ∧ Q (.bl (!decide (c ∈ z.cps.toList))) H) notInSP := by
  intro L H x y a b z Q hL wa wb e k
  unfold notInSP at e
  split at e
  · split at e
    · rename_i h
      cases wa; cases wb; cases e
      exact ⟨_, _, by rw [one_sign h], rfl, k _ H Grow.refl (.bl _)⟩
    · cases e
  · cases e
end
end DL
set_option Elab.async false
set_option linter.all false
set_option maxRecDepth 100000
set_option maxHeartbeats 2000000
set_option autoImplicit false
namespace DL
open PySem PySem.Spec L2
open PyProof.Rows hiding St

/-! weak reading: the script too -/
def WW (K : PySem.W.Frag) (L : Addr → Prop) (H : Hp) (v : V) : PyData → Prop
  | .list ds => ∃ a xs, v = .ref a ∧ SqL K H a xs ∧ TRs K L H xs ds
  | d => TR K L H v d
inductive WWs (K : PySem.W.Frag) (L : Addr → Prop) (H : Hp) : List V → List PyData → Prop
  | nil : WWs K L H [] []
  | cons {v : V} {vs : List V} {d : PyData} {ds : List PyData} : WW K L H v d → WWs K L H vs ds → WWs K L H (v :: vs) (d :: ds)
theorem WR.w {K : PySem.W.Frag} {L : Addr → Prop} {H : Hp} {v : V} {d : PyData} (h : WR K L H v d) : WW K L H v d := by
  cases d with
  | list ds => obtain ⟨a, xs, rfl, e, t⟩ := h; exact ⟨a, xs, rfl, SqL.of e, t⟩
  | _ => exact h
def rdw : D → M PyData
  | .s ns => ret (.list (ns.map .int))
  | d => rd d
def rdws : List D → M (List PyData)
  | [] => ret []
  | d :: ds => bd (rdw d) fun x => bd (rdws ds) fun xs => ret (x :: xs)
theorem trs_ints {K : PySem.W.Frag} {L : Addr → Prop} {H : Hp} : ∀ ns : List Int, TRs K L H (ns.map V.int) (ns.map PyData.int)
  | [] => .nil
  | n :: ns => .cons (.int n) (trs_ints ns)
section
variable {K : PySem.W.Frag} {WE : EW} {r : List Addr} {S : DS} {h : Hd} {s : St} {H : Hp}
theorem rdw_ok {d : D} {v : V} {G : PyData → List Addr → Hd → Hp → Prop} (R : Rel K r S h s H) (x : DR K r h H d v) (p : Post K WE r S h s H (rdw d h) G) : ∃ z, WW K (Lv r h) H v z ∧ G z r h H := by
  cases d with
  | s ns =>
    obtain ⟨a, rfl, q⟩ := x
    exact ⟨.list (ns.map .int), ⟨a, _, rfl, q.sql, trs_ints ns⟩, p r H R .refl⟩
  | t d => obtain ⟨z, a, b⟩ := rd_ok R x p; exact ⟨z, a.w, b⟩
  | c n => obtain ⟨z, a, b⟩ := rd_ok R x p; exact ⟨z, a.w, b⟩
  | k u => obtain ⟨z, a, b⟩ := rd_ok R x p; exact ⟨z, a.w, b⟩
theorem rdws_ok : ∀ {ds : List D} {vs : List V} {G : List PyData → List Addr → Hd → Hp → Prop}, Rel K r S h s H → DRs K r h H ds vs → Post K WE r S h s H (rdws ds h) G → ∃ zs, WWs K (Lv r h) H vs zs ∧ G zs r h H
  | [], _, G, R, x, p => by cases x; exact ⟨[], .nil, p r H R .refl⟩
  | d :: ds, _, G, R, x, p => by
    cases x with
    | cons a b =>
      obtain ⟨z, z1, z2⟩ := rdw_ok R a p.bd
      obtain ⟨zs, z3, z4⟩ := rdws_ok R b z2.bd
      exact ⟨z :: zs, .cons z1 z3, z4.ret R⟩
end
section
variable {X : Cx} {WE : EW}
/-! built-ins by weak trees -/
def PureW (K : PySem.W.Frag) (r : List V → Hp → VK → Prop) (g : List PyData → Option PyData) : Prop :=
  ∀ (L : Addr → Prop) (H : Hp) (vs : List V) (xs : List PyData) (z : PyData) (Q : VK), (∀ p, L p → ∃ o, H p = some o) → WWs K L H vs xs → g xs = some z → (∀ v H', Grow H H' → TR K L H' v z → Q v H') → r vs H Q
def dCW (g : List PyData → Option PyData) (ms : DS → M (List D)) : DS → M D := fun S => bd (ms S) fun ds => bd (rdws ds) fun xs => bd (opt (g xs)) fun z => ret (.t z)
theorem cw_imp {r : List V → Hp → VK → Prop} {g : List PyData → Option PyData} {K : PySem.W.Frag} {ms : DS → M (List D)} (hg : PureW K r g) (s : St) (H : Hp) (Q : VK) : tD K WE (dCW g ms) s H Q → tCB r (tDA K WE ms) s H Q := by
  rintro ⟨r0, S, h, R, p⟩
  refine ⟨r0, S, h, R, p.bd.mono fun ds r1 h1 H1 R1 E1 q vs dvs => ?_⟩
  obtain ⟨xs, x1, x2⟩ := rdws_ok R1 dvs q.bd
  obtain ⟨z, z1, z2⟩ := x2.bd.opt R1
  exact hg (Lv r1 h1) H1 vs xs z Q (fun p l => R1.lv l) x1 z1 fun u H' gr t => z2 r1 H' (R1.grow gr) (.grow gr) u t
/-- a built-in that makes a list -/
def PureN (K : PySem.W.Frag) (r : List V → Hp → VK → Prop) (g : List PyData → Option (List PyData)) : Prop :=
  ∀ (L : Addr → Prop) (H : Hp) (vs : List V) (xs ds : List PyData) (Q : VK), WWs K L H vs xs → g xs = some ds → (∀ p ws, H p = none → TRs K L H ws ds → Q (.ref p) (upd H p (.lst ws))) → r vs H Q
def dCN (c : Bool) (g : List PyData → Option (List PyData)) (ms : DS → M (List D)) : DS → M D := fun S => bd (ms S) fun ds => bd (rdws ds) fun xs => bd (opt (g xs)) fun z => mk c z
theorem cn_imp {c : Bool} {r : List V → Hp → VK → Prop} {g : List PyData → Option (List PyData)} {K : PySem.W.Frag} {ms : DS → M (List D)} (hg : PureN K r g) (s : St) (H : Hp) (Q : VK) : tD K WE (dCN c g ms) s H Q → tCB r (tDA K WE ms) s H Q := by
  rintro ⟨r0, S, h, R, p⟩
  refine ⟨r0, S, h, R, p.bd.mono fun ds r1 h1 H1 R1 E1 q vs dvs => ?_⟩
  obtain ⟨xs, x1, x2⟩ := rdws_ok R1 dvs q.bd
  obtain ⟨z, z1, z2⟩ := x2.bd.opt R1
  refine hg (Lv r1 h1) H1 vs xs z Q x1 z1 fun p ws np t => ?_
  obtain ⟨d, r', h', R', E', d1, g1⟩ := mk_ok R1 t np z2
  exact g1 _ d1
section
variable {x : Str} {p pos : Pos} {e : Expr} {es : List Expr} {ms : DS → M (List D)} {r : List V → Hp → VK → Prop} {g : List PyData → Option PyData} {gn : List PyData → Option (List PyData)}
theorem de_bw {id : String} (hc : CallR X (.builtin id) r) (hg : PureW X.K r g) (gl : Gl X x) (hm : X.mg x = none) (hv : bootBuiltins x = some (.builtin id)) (ha : DA X WE (e :: es) ms) (hn : x ≠ "__name__" := by decide) (hdb : (x == ("__debug__" : Str)) = false := by decide)
    (he : starEach (e :: es) X.env = (false, eval e X.env) :: starEach es X.env := by rfl) (hpl : (backTo pos (starEach es X.env)).any (·.1) = false := by rfl) : DE X WE (.Call (.Name x p) (e :: es) [] pos) (dCW g ms) :=
  PE.imp (pe_callB hc gl hm hv ha hn hdb he hpl) (cw_imp hg)
theorem de_tw {T : String} (hc : CallR X (.type T) r) (hg : PureW X.K r g) (gl : Gl X x) (hm : X.mg x = none) (hv : bootBuiltins x = some (.type T)) (ha : DA X WE (e :: es) ms) (hn : x ≠ "__name__" := by decide) (hdb : (x == ("__debug__" : Str)) = false := by decide)
    (he : starEach (e :: es) X.env = (false, eval e X.env) :: starEach es X.env := by rfl) (hpl : (backTo pos (starEach es X.env)).any (·.1) = false := by rfl) : DE X WE (.Call (.Name x p) (e :: es) [] pos) (dCW g ms) :=
  PE.imp (pe_callTy hc gl hm hv ha hn hdb he hpl) (cw_imp hg)
theorem de_bn (c : Bool) {id : String} (hc : CallR X (.builtin id) r) (hg : PureN X.K r gn) (gl : Gl X x) (hm : X.mg x = none) (hv : bootBuiltins x = some (.builtin id)) (ha : DA X WE (e :: es) ms) (hn : x ≠ "__name__" := by decide) (hdb : (x == ("__debug__" : Str)) = false := by decide)
    (he : starEach (e :: es) X.env = (false, eval e X.env) :: starEach es X.env := by rfl) (hpl : (backTo pos (starEach es X.env)).any (·.1) = false := by rfl) : DE X WE (.Call (.Name x p) (e :: es) [] pos) (dCN c gn ms) :=
  PE.imp (pe_callB hc gl hm hv ha hn hdb he hpl) (cn_imp hg)
theorem de_tn (c : Bool) {T : String} (hc : CallR X (.type T) r) (hg : PureN X.K r gn) (gl : Gl X x) (hm : X.mg x = none) (hv : bootBuiltins x = some (.type T)) (ha : DA X WE (e :: es) ms) (hn : x ≠ "__name__" := by decide) (hdb : (x == ("__debug__" : Str)) = false := by decide)
    (he : starEach (e :: es) X.env = (false, eval e X.env) :: starEach es X.env := by rfl) (hpl : (backTo pos (starEach es X.env)).any (·.1) = false := by rfl) : DE X WE (.Call (.Name x p) (e :: es) [] pos) (dCN c gn ms) :=
  PE.imp (pe_callTy hc gl hm hv ha hn hdb he hpl) (cn_imp hg)
end
end
section
variable {K : PySem.W.Frag} {X : Cx}
theorem WWs.one {L : Addr → Prop} {H : Hp} {vs : List V} {a : PyData} (w : WWs K L H vs [a]) : ∃ v, vs = [v] ∧ WW K L H v a := by
  cases w with
  | cons x y => cases y; exact ⟨_, rfl, x⟩
theorem WWs.two {L : Addr → Prop} {H : Hp} {vs : List V} {a b : PyData} (w : WWs K L H vs [a, b]) : ∃ v u, vs = [v, u] ∧ WW K L H v a ∧ WW K L H u b := by
  cases w with
  | cons x y => cases y with
    | cons y z => cases z; exact ⟨_, _, rfl, x, y⟩
/-- len -/
def lenP : List PyData → Option PyData
  | [.str x] => if x.length ≤ sizeLine then some (.int x.length) else none
  | [.list ds] => some (.int ds.length)
  | [.tuple ds] => some (.int ds.length)
  | _ => none
theorem pw_len : PureW K (fun xs H Q => ∃ x n, xs = [x] ∧ LenV K x H n ∧ Q (.int n) H) lenP := by
  intro L H vs xs z Q hL w0 e k
  unfold lenP at e
  split at e
  · obtain ⟨v, rfl, w⟩ := w0.one
    cases w
    split at e
    · rename_i hl
      cases e
      exact ⟨.str _, _, rfl, ⟨hl, rfl⟩, k _ H Grow.refl (.int _)⟩
    · cases e
  · obtain ⟨v, rfl, w⟩ := w0.one
    obtain ⟨a, ys, rfl, e1, t1⟩ := w
    cases e
    refine ⟨.ref a, ys.length, rfl, (show _ ∨ _ from .inl ⟨ys, e1, rfl⟩), ?_⟩
    rw [t1.length]
    exact k _ H Grow.refl (.int _)
  · obtain ⟨v, rfl, w⟩ := w0.one
    cases w with
    | @tup a ys _ e1 n1 t1 =>
      cases e
      refine ⟨.ref a, ys.length, rfl, (show _ ∨ _ from .inr ⟨ys, SqT.of e1, rfl⟩), ?_⟩
      rw [t1.length]
      exact k _ H Grow.refl (.int _)
  · cases e
def absP : List PyData → Option PyData
  | [.int i] => some (.int (if i < 0 then -i else i))
  | _ => none
theorem pw_abs : PureW K (fun xs H Q => ∃ i, xs = [.int i] ∧ Q (.int (if i < 0 then -i else i)) H) absP := by
  intro L H vs xs z Q hL w0 e k
  unfold absP at e
  split at e
  · obtain ⟨v, rfl, w⟩ := w0.one
    cases w; cases e
    exact ⟨_, rfl, k _ H Grow.refl (.int _)⟩
  · cases e
def intP : List PyData → Option PyData
  | [.int i] => some (.int i)
  | [.bool b] => some (.int (if b then 1 else 0))
  | _ => none
theorem pw_int : PureW K (fun xs H Q => (∃ i, xs = [.int i] ∧ Q (.int i) H) ∨ ∃ k, xs = [.bl k] ∧ Q (.int (if k then 1 else 0)) H) intP := by
  intro L H vs xs z Q hL w0 e k
  unfold intP at e
  split at e
  · obtain ⟨v, rfl, w⟩ := w0.one
    cases w; cases e
    exact .inl ⟨_, rfl, k _ H Grow.refl (.int _)⟩
  · obtain ⟨v, rfl, w⟩ := w0.one
    cases w; cases e
    exact .inr ⟨_, rfl, k _ H Grow.refl (.int _)⟩
  · cases e
/-- max, min: two ints, or a list of ints -/
def intsP : List PyData → Option (List Int)
  | [] => some []
  | .int i :: ds => (intsP ds).map (i :: ·)
  | _ => none
theorem intsP_of : ∀ {ds : List PyData} {ns : List Int}, intsP ds = some ns → ds = ns.map .int
  | [], ns, e => by cases e; rfl
  | d :: ds, ns, e => by
    cases d with
    | int i =>
      simp only [intsP] at e
      cases q : intsP ds with
      | none => rw [q] at e; cases e
      | some ms => rw [q] at e; cases e; rw [intsP_of q]; rfl
    | _ => cases e
theorem intsP_map (ns : List Int) : intsP (ns.map .int) = some ns := by
  induction ns with
  | nil => rfl
  | cons n ns ih => simp [intsP, ih]
theorem trs_ints_inv {L : Addr → Prop} {H : Hp} : ∀ {ns : List Int} {vs : List V}, TRs K L H vs (ns.map PyData.int) → vs = ns.map V.int
  | [], _, h => by cases h; rfl
  | n :: ns, _, h => by
    cases h with
    | cons a b => cases a; rw [trs_ints_inv b]; rfl
def maxI : List Int → Int
  | [] => 0
  | [n] => n
  | n :: m :: ns => max n (maxI (m :: ns))
def minI : List Int → Int
  | [] => 0
  | [n] => n
  | n :: m :: ns => min n (minI (m :: ns))
theorem maxI_of : ∀ {ns : List Int} {m : Int}, m ∈ ns → (∀ y ∈ ns, y ≤ m) → m = maxI ns
  | [n], m, h, _ => by simp at h; exact h
  | n :: k :: ns, m, h, g => by
    have g0 := g n (by simp)
    have ih : ∀ m', m' ∈ k :: ns → (∀ y ∈ k :: ns, y ≤ m') → m' = maxI (k :: ns) := fun m' a b => maxI_of a b
    have ex : ∀ l : List Int, l ≠ [] → maxI l ∈ l ∧ ∀ y ∈ l, y ≤ maxI l := by
      intro l
      induction l with
      | nil => intro h; exact absurd rfl h
      | cons a l ih =>
        intro _
        cases l with
        | nil => exact ⟨by simp [maxI], fun y hy => by simp at hy; subst hy; exact Int.le_refl _⟩
        | cons b l =>
          obtain ⟨i1, i2⟩ := ih (by simp)
          show max a (maxI (b :: l)) ∈ a :: b :: l ∧ ∀ y ∈ a :: b :: l, y ≤ max a (maxI (b :: l))
          refine ⟨?_, fun y hy => ?_⟩
          · rcases Int.le_total a (maxI (b :: l)) with z | z
            · rw [Int.max_eq_right z]; exact List.mem_cons_of_mem _ i1
            · rw [Int.max_eq_left z]; exact List.mem_cons_self
          · rcases List.mem_cons.mp hy with rfl | hy
            · exact Int.le_max_left _ _
            · exact Int.le_trans (i2 y hy) (Int.le_max_right _ _)
    obtain ⟨x1, x2⟩ := ex (n :: k :: ns) (by simp)
    exact Int.le_antisymm (x2 m h) (g _ x1)
theorem maxI_mem {l : List Int} (h : l ≠ []) : maxI l ∈ l ∧ ∀ y ∈ l, y ≤ maxI l := by
  induction l with
  | nil => exact absurd rfl h
  | cons a l ih =>
    cases l with
    | nil => exact ⟨by simp [maxI], fun y hy => by simp at hy; subst hy; exact Int.le_refl _⟩
    | cons b l =>
      obtain ⟨i1, i2⟩ := ih (by simp)
      show max a (maxI (b :: l)) ∈ a :: b :: l ∧ ∀ y ∈ a :: b :: l, y ≤ max a (maxI (b :: l))
      refine ⟨?_, fun y hy => ?_⟩
      · rcases Int.le_total a (maxI (b :: l)) with z | z
        · rw [Int.max_eq_right z]; exact List.mem_cons_of_mem _ i1
        · rw [Int.max_eq_left z]; exact List.mem_cons_self
      · rcases List.mem_cons.mp hy with rfl | hy
        · exact Int.le_max_left _ _
        · exact Int.le_trans (i2 y hy) (Int.le_max_right _ _)
theorem minI_mem {l : List Int} (h : l ≠ []) : minI l ∈ l ∧ ∀ y ∈ l, minI l ≤ y := by
  induction l with
  | nil => exact absurd rfl h
  | cons a l ih =>
    cases l with
    | nil => exact ⟨by simp [minI], fun y hy => by simp at hy; subst hy; exact Int.le_refl _⟩
    | cons b l =>
      obtain ⟨i1, i2⟩ := ih (by simp)
      show min a (minI (b :: l)) ∈ a :: b :: l ∧ ∀ y ∈ a :: b :: l, min a (minI (b :: l)) ≤ y
      refine ⟨?_, fun y hy => ?_⟩
      · rcases Int.le_total a (minI (b :: l)) with z | z
        · rw [Int.min_eq_left z]; exact List.mem_cons_self
        · rw [Int.min_eq_right z]; exact List.mem_cons_of_mem _ i1
      · rcases List.mem_cons.mp hy with rfl | hy
        · exact Int.min_le_left _ _
        · exact Int.le_trans (Int.min_le_right _ _) (i2 y hy)
def maxP : List PyData → Option PyData
  | [.int i, .int j] => some (.int (if j > i then j else i))
  | [.list ds] => (intsP ds).bind fun ns => if ns = [] then none else some (.int (maxI ns))
  | _ => none
def minP : List PyData → Option PyData
  | [.int i, .int j] => some (.int (if j < i then j else i))
  | [.list ds] => (intsP ds).bind fun ns => if ns = [] then none else some (.int (minI ns))
  | _ => none
theorem call_maxA (hc : X.calm = true) : CallR X (.builtin "max") (fun xs H Q => (∃ i j, xs = [.int i, .int j] ∧ Q (.int (if j > i then j else i)) H) ∨ rMax X.K xs H Q) := (call_max2 hc).or (cr_max hc)
theorem call_minA (hc : X.calm = true) : CallR X (.builtin "min") (fun xs H Q => (∃ i j, xs = [.int i, .int j] ∧ Q (.int (if j < i then j else i)) H) ∨ rMin X.K xs H Q) := (call_min2 hc).or (cr_min hc)
theorem pw_max : PureW K (fun xs H Q => (∃ i j, xs = [.int i, .int j] ∧ Q (.int (if j > i then j else i)) H) ∨ rMax K xs H Q) maxP := by
  intro L H vs xs z Q hL w0 e k
  unfold maxP at e
  split at e
  · obtain ⟨v, u, rfl, w1, w2⟩ := w0.two
    cases w1; cases w2; cases e
    exact .inl ⟨_, _, rfl, k _ H Grow.refl (.int _)⟩
  · rename_i ds
    obtain ⟨v, rfl, w⟩ := w0.one
    obtain ⟨a, ys, rfl, e1, t1⟩ := w
    cases q : intsP ds with
    | none => rw [q] at e; cases e
    | some ns =>
      rw [q] at e
      simp only [Option.bind] at e
      split at e
      · cases e
      · rename_i hne
        cases e
        rw [intsP_of q] at t1
        have := trs_ints_inv t1
        subst this
        refine .inr ⟨a, ns, rfl, e1, List.length_pos_iff.mpr hne, fun m hm hle => ?_⟩
        rw [maxI_of hm hle]
        exact k _ H Grow.refl (.int _)
  · cases e
theorem pw_min : PureW K (fun xs H Q => (∃ i j, xs = [.int i, .int j] ∧ Q (.int (if j < i then j else i)) H) ∨ rMin K xs H Q) minP := by
  intro L H vs xs z Q hL w0 e k
  unfold minP at e
  split at e
  · obtain ⟨v, u, rfl, w1, w2⟩ := w0.two
    cases w1; cases w2; cases e
    exact .inl ⟨_, _, rfl, k _ H Grow.refl (.int _)⟩
  · rename_i ds
    obtain ⟨v, rfl, w⟩ := w0.one
    obtain ⟨a, ys, rfl, e1, t1⟩ := w
    cases q : intsP ds with
    | none => rw [q] at e; cases e
    | some ns =>
      rw [q] at e
      simp only [Option.bind] at e
      split at e
      · cases e
      · rename_i hne
        cases e
        rw [intsP_of q] at t1
        have := trs_ints_inv t1
        subst this
        refine .inr ⟨a, ns, rfl, e1, List.length_pos_iff.mpr hne, fun m hm hle => ?_⟩
        have z := minI_mem hne
        rw [show m = minI ns from Int.le_antisymm (hle _ z.1) (z.2 m hm)]
        exact k _ H Grow.refl (.int _)
  · cases e
def sumP : List PyData → Option PyData
  | [.list ds] => (intsP ds).map fun ns => .int ns.sum
  | _ => none
theorem pw_sum : PureW K (rSum K) sumP := by
  intro L H vs xs z Q hL w0 e k
  unfold sumP at e
  split at e
  · rename_i ds
    obtain ⟨v, rfl, w⟩ := w0.one
    obtain ⟨a, ys, rfl, e1, t1⟩ := w
    cases q : intsP ds with
    | none => rw [q] at e; cases e
    | some ns =>
      rw [q] at e
      cases e
      rw [intsP_of q] at t1
      have := trs_ints_inv t1
      subst this
      exact ⟨a, ns, rfl, e1, k _ H Grow.refl (.int _)⟩
  · cases e
def boolsP : List PyData → Option (List Bool)
  | [] => some []
  | .bool b :: ds => (boolsP ds).map (b :: ·)
  | _ => none
theorem boolsP_of : ∀ {ds : List PyData} {ns : List Bool}, boolsP ds = some ns → ds = ns.map .bool
  | [], ns, e => by cases e; rfl
  | d :: ds, ns, e => by
    cases d with
    | bool i =>
      simp only [boolsP] at e
      cases q : boolsP ds with
      | none => rw [q] at e; cases e
      | some ms => rw [q] at e; cases e; rw [boolsP_of q]; rfl
    | _ => cases e
theorem boolsP_map (ns : List Bool) : boolsP (ns.map .bool) = some ns := by
  induction ns with
  | nil => rfl
  | cons n ns ih => simp [boolsP, ih]
theorem trs_bools_inv {L : Addr → Prop} {H : Hp} : ∀ {ns : List Bool} {vs : List V}, TRs K L H vs (ns.map PyData.bool) → vs = ns.map V.bl
  | [], _, h => by cases h; rfl
  | n :: ns, _, h => by
    cases h with
    | cons a b => cases a; rw [trs_bools_inv b]; rfl
def allP : List PyData → Option PyData
  | [.list ds] => (boolsP ds).map fun bs => .bool (bs.all id)
  | _ => none
def anyP : List PyData → Option PyData
  | [.list ds] => (boolsP ds).map fun bs => .bool (bs.any id)
  | _ => none
theorem pw_all : PureW K (rAll K) allP := by
  intro L H vs xs z Q hL w0 e k
  unfold allP at e
  split at e
  · rename_i ds
    obtain ⟨v, rfl, w⟩ := w0.one
    obtain ⟨a, ys, rfl, e1, t1⟩ := w
    cases q : boolsP ds with
    | none => rw [q] at e; cases e
    | some ns =>
      rw [q] at e
      cases e
      rw [boolsP_of q] at t1
      have := trs_bools_inv t1
      subst this
      exact ⟨a, ns, rfl, e1, k _ H Grow.refl (.bl _)⟩
  · cases e
theorem pw_any : PureW K (rAny K) anyP := by
  intro L H vs xs z Q hL w0 e k
  unfold anyP at e
  split at e
  · rename_i ds
    obtain ⟨v, rfl, w⟩ := w0.one
    obtain ⟨a, ys, rfl, e1, t1⟩ := w
    cases q : boolsP ds with
    | none => rw [q] at e; cases e
    | some ns =>
      rw [q] at e
      cases e
      rw [boolsP_of q] at t1
      have := trs_bools_inv t1
      subst this
      exact ⟨a, ns, rfl, e1, k _ H Grow.refl (.bl _)⟩
  · cases e
/-- tuple(xs) -/
def tupP : List PyData → Option PyData
  | [.list ds] => some (.tuple ds)
  | [.tuple ds] => some (.tuple ds)
  | _ => none
theorem pw_tup : PureW K (fun xs H Q => ∃ p ys, xs = [.ref p] ∧ ((SqL K H p ys ∧ ∀ l, H l = none → Q (.ref l) (upd H l (.tup ys))) ∨ (SqT K H p ys ∧ Q (.ref p) H))) tupP := by
  intro L H vs xs z Q hL w0 e k
  unfold tupP at e
  split at e
  · obtain ⟨v, rfl, w⟩ := w0.one
    obtain ⟨a, ys, rfl, e1, t1⟩ := w
    cases e
    exact ⟨a, ys, rfl, .inl ⟨e1, fun l nl => newT hL nl t1 k⟩⟩
  · obtain ⟨v, rfl, w⟩ := w0.one
    cases w with
    | tup e1 n1 t1 =>
      cases e
      exact ⟨_, _, rfl, .inr ⟨SqT.of e1, k _ H Grow.refl (.tup e1 n1 t1)⟩⟩
  · cases e
/-- list(xs), list(text) -/
def signsP (x : Str) : List PyData := x.cps.toList.map fun c => .str (tx [c])
def listP : List PyData → Option (List PyData)
  | [.list ds] => some ds
  | [.tuple ds] => some ds
  | [.str x] => if x.length ≤ sizeLine then some (signsP x) else none
  | _ => none
theorem call_listS (hc : X.calm = true) : CallR X (.type "list") (fun xs H Q => ∃ x, xs = [.str x] ∧ x.length ≤ sizeLine ∧ ∀ l, H l = none → Q (.ref l) (upd H l (.lst (x.cps.toList.map fun c => V.str (tx [c]))))) := by
  intro pins s σ H xs us Q I rv h
  obtain ⟨x, rfl, hx, q⟩ := h
  obtain ⟨u, rfl, ⟨t, rfl⟩⟩ := vals1 rv
  refine call_list_str (I.ok.hd hc) x t (hn := hx) fun h' tk acc c' hk hS hA => ?_
  have np : H s.heap.objs.size = none := I.fresh
  have rel : Vals (x.cps.toList.map fun c => V.str (tx [c])) acc.toList := by
    obtain ⟨h1, h2⟩ := hA
    have key : ∀ (l : List Nat) (vs : List Value), vs.length = l.length → (∀ (j : Nat) v, vs[j]? = some v → ∃ c u, l[j]? = some c ∧ v = Value.str ⟨#[c]⟩ u) → Vals (l.map fun c => V.str (tx [c])) vs := by
      intro l
      induction l with
      | nil =>
        intro vs hl _
        cases vs with
        | nil => exact .nil
        | cons v vs => cases hl
      | cons c l ih =>
        intro vs hl hv
        cases vs with
        | nil => cases hl
        | cons v vs =>
          obtain ⟨c', u, e1, e2⟩ := hv 0 v (by simp)
          simp at e1
          subst e1
          exact .cons ⟨u, e2⟩ (ih vs (by simpa using hl) fun j v' q => by
            obtain ⟨c2, u2, f1, f2⟩ := hv (j + 1) v' (by simpa using q)
            exact ⟨c2, u2, by simpa using f1, f2⟩)
    refine key _ _ (by simp [h1]) fun j v q => ?_
    obtain ⟨c2, u2, f1, f2⟩ := h2 j v (by simpa using q)
    exact ⟨c2, u2, by simpa using f1, f2⟩
  have ok : ObjOk X.prog X.w (upd H s.heap.objs.size (.lst (x.cps.toList.map fun c => V.str (tx [c])))) h' s.heap.objs.size (.lst (x.cps.toList.map fun c => V.str (tx [c]))) :=
    ⟨by simpa [Str.length] using hx, acc.toList, c', rel, by simpa using hS⟩
  exact ⟨.ref s.heap.objs.size, _, I.laid hk (Nat.le_refl _) ok, rfl, q _ np⟩
end
end DL
set_option Elab.async false
set_option linter.all false
set_option maxRecDepth 100000
set_option maxHeartbeats 2000000
set_option autoImplicit false
namespace DL
open PySem PySem.Spec L2
open PyProof.Rows hiding St

section
variable {K : PySem.W.Frag} {X : Cx} {WE : EW}
theorem trs_signs {L : Addr → Prop} {H : Hp} : ∀ l : List Nat, TRs K L H (l.map fun c => V.str (tx [c])) (l.map fun c => PyData.str (tx [c]))
  | [] => .nil
  | c :: l => .cons (.str _) (trs_signs l)
def rListA (K : PySem.W.Frag) : List V → Hp → VK → Prop := fun xs H Q => (∃ p ys, xs = [.ref p] ∧ (SqL K H p ys ∨ SqT K H p ys) ∧ ∀ l, H l = none → Q (.ref l) (upd H l (.lst ys))) ∨ ∃ x, xs = [.str x] ∧ x.length ≤ sizeLine ∧ ∀ l, H l = none → Q (.ref l) (upd H l (.lst (x.cps.toList.map fun c => V.str (tx [c]))))
theorem call_listA (hc : X.calm = true) : CallR X (.type "list") (rListA X.K) := call_list_of.or (call_listS hc)
theorem pn_list : PureN K (rListA K) listP := by
  intro L H vs xs ds Q w0 e k
  unfold listP at e
  split at e
  · obtain ⟨v, rfl, w⟩ := w0.one
    obtain ⟨a, ys, rfl, e1, t1⟩ := w
    cases e
    exact .inl ⟨a, ys, rfl, .inl e1, fun l nl => k l ys nl t1⟩
  · obtain ⟨v, rfl, w⟩ := w0.one
    cases w with
    | @tup a ys _ e1 n1 t1 =>
      cases e
      exact .inl ⟨a, ys, rfl, .inr (SqT.of e1), fun l nl => k l ys nl t1⟩
  · obtain ⟨v, rfl, w⟩ := w0.one
    cases w
    split at e
    · rename_i hl
      cases e
      exact .inr ⟨_, rfl, hl, fun l nl => k l _ nl (trs_signs _)⟩
    · cases e
  · cases e
/-- list(range(..)) -/
def dRgL (c : Bool) (m : DS → M (List PyData)) : DS → M D := fun S => bd (m S) fun ds => if ds.length ≤ sizeLine then mk c ds else fail
/-- sorted of ints -/
def insI (n : Int) : List Int → List Int
  | [] => [n]
  | m :: ms => if n ≤ m then n :: m :: ms else m :: insI n ms
def sortI (l : List Int) : List Int := l.foldr insI []
theorem insI_perm (n : Int) : ∀ l, (insI n l).Perm (n :: l)
  | [] => .refl _
  | m :: ms => by
    unfold insI
    split
    · exact .refl _
    · exact ((insI_perm n ms).cons m).trans (.swap n m ms)
theorem sortI_perm : ∀ l : List Int, (sortI l).Perm l
  | [] => .refl _
  | n :: l => (insI_perm n (sortI l)).trans ((sortI_perm l).cons n)
theorem insI_sorted {n : Int} : ∀ {l : List Int}, l.Pairwise (· ≤ ·) → (insI n l).Pairwise (· ≤ ·)
  | [], _ => by simp [insI]
  | m :: ms, h => by
    unfold insI
    split
    · rename_i hm
      rw [List.pairwise_cons] at h ⊢
      refine ⟨fun y hy => ?_, List.pairwise_cons.mpr h⟩
      rcases List.mem_cons.mp hy with rfl | hy
      · exact hm
      · exact Int.le_trans hm (h.1 y hy)
    · rename_i hm
      rw [List.pairwise_cons] at h ⊢
      refine ⟨fun y hy => ?_, insI_sorted h.2⟩
      rcases List.mem_cons.mp ((insI_perm n ms).mem_iff.mp hy) with rfl | hy
      · omega
      · exact h.1 y hy
theorem sortI_sorted : ∀ l : List Int, (sortI l).Pairwise (· ≤ ·)
  | [] => .nil
  | n :: l => insI_sorted (sortI_sorted l)
theorem sorted_one : ∀ {l m : List Int}, l.Perm m → l.Pairwise (· ≤ ·) → m.Pairwise (· ≤ ·) → l = m
  | [], m, p, _, _ => by
    have := p.length_eq
    cases m with
    | nil => rfl
    | cons => cases this
  | a :: l, m, p, hl, hm => by
    cases m with
    | nil => have := p.length_eq; cases this
    | cons b m =>
      rw [List.pairwise_cons] at hl hm
      have h1 : b ≤ a := by
        rcases List.mem_cons.mp (p.mem_iff.mp List.mem_cons_self) with z | z
        · omega
        · exact hm.1 a z
      have h2 : a ≤ b := by
        rcases List.mem_cons.mp (p.mem_iff.mpr List.mem_cons_self) with z | z
        · omega
        · exact hl.1 b z
      have e : a = b := Int.le_antisymm h2 h1
      subst e
      rw [sorted_one (List.perm_cons a |>.mp p) hl.2 hm.2]
def sortP : List PyData → Option (List PyData)
  | [.list ds] => (intsP ds).map fun ns => (sortI ns).map .int
  | _ => none
theorem pn_sort : PureN K (fun vs H Q => ∃ (a : Addr) (ns : List Int), vs = [V.ref a] ∧ SqL K H a (ns.map V.int) ∧ ∀ (ns' : List Int) (p : Addr), ns'.Perm ns → ns'.Pairwise (· ≤ ·) → H p = none → Q (.ref p) (upd H p (.lst (ns'.map V.int)))) sortP := by
  intro L H vs xs ds Q w0 e k
  unfold sortP at e
  split at e
  · rename_i es
    obtain ⟨v, rfl, w⟩ := w0.one
    obtain ⟨a, ys, rfl, e1, t1⟩ := w
    cases q : intsP es with
    | none => rw [q] at e; cases e
    | some ns =>
      rw [q] at e
      cases e
      rw [intsP_of q] at t1
      have := trs_ints_inv t1
      subst this
      refine ⟨a, ns, rfl, e1, fun ns' p hp hs np => ?_⟩
      rw [sorted_one (hp.trans (sortI_perm ns).symm) hs (sortI_sorted ns)]
      exact k p _ np (trs_ints _)
  · cases e
/-! subscripts -/
def PureX (K : PySem.W.Frag) (r : R2) (g : PyData → PyData → Option PyData) : Prop :=
  ∀ (L : Addr → Prop) (H : Hp) (x y : V) (a b z : PyData) (Q : VK), (∀ p, L p → ∃ o, H p = some o) → WW K L H x a → WW K L H y b → g a b = some z → (∀ v, TR K L H v z → Q v H) → r x y H Q
def dIx (g : PyData → PyData → Option PyData) (ma mb : DS → M D) : DS → M D := fun S => bd (ma S) fun a => bd (mb S) fun b => bd (rdw a) fun x => bd (rdw b) fun y => bd (opt (g x y)) fun z => ret (.t z)
def ixP : PyData → PyData → Option PyData
  | .list ds, .int i => atI ds i
  | .tuple ds, .int i => atI ds i
  | .str x, .int i => if x.length ≤ sizeLine then (atI x.cps.toList i).map fun c => .str (tx [c]) else none
  | _, _ => none
theorem trs_at {L : Addr → Prop} {H : Hp} {vs : List V} {ds : List PyData} {i : Int} {d : PyData} (t : TRs K L H vs ds) (e : atI ds i = some d) : ∃ v, atI vs i = some v ∧ TR K L H v d := by
  unfold atI at e ⊢
  rw [t.length]
  cases q : ixN ds.length i with
  | none => rw [q] at e; cases e
  | some j =>
    rw [q] at e
    simp only [Option.bind] at e ⊢
    exact t.get e
theorem px_ix : PureX K (rIx K) ixP := by
  intro L H x y a b z Q hL wa wb e k
  unfold ixP at e
  split at e
  · obtain ⟨p, ys, rfl, e1, t1⟩ := wa
    cases wb
    obtain ⟨v, e2, t2⟩ := trs_at t1 e
    exact .inl ⟨p, ys, _, v, rfl, rfl, e1, e2, k v t2⟩
  · cases wa with
    | @tup p ys _ e1 n1 t1 =>
      cases wb
      obtain ⟨v, e2, t2⟩ := trs_at t1 e
      exact .inr (.inl ⟨p, ys, _, v, rfl, rfl, SqT.of e1, e2, k v t2⟩)
  · cases wa; cases wb
    split at e
    · rename_i hl
      rename_i x i
      cases q : atI x.cps.toList i with
      | none => rw [q] at e; cases e
      | some c =>
        rw [q] at e
        cases e
        exact .inr (.inr ⟨_, _, c, rfl, rfl, hl, q, k _ (.str _)⟩)
    · cases e
  · cases e
theorem de_ix {a b : Expr} {ma mb : DS → M D} {pos : Pos} (ha : DE X WE a ma) (hb : DE X WE b mb) (hs : PlainIx b) : DE X WE (.Subscript a b pos) (dIx ixP ma mb) :=
  PE.imp (pe_ix ix_seq ha hb hs) fun s H Q ⟨r0, S, h, R, p⟩ => ⟨r0, S, h, R, p.bd.mono fun a r1 h1 H1 R1 E1 q v dv => ⟨r1, S, h1, R1, q.bd.mono fun b r2 h2 H2 R2 E2 q2 w dw => by
    obtain ⟨x, x1, x2⟩ := rdw_ok R2 (dv.ext E2) q2.bd
    obtain ⟨y, y1, y2⟩ := rdw_ok R2 dw x2.bd
    obtain ⟨z, z1, z2⟩ := y2.bd.opt R2
    exact px_ix (Lv r2 h2) H2 v w x y z Q (fun p l => R2.lv l) x1 y1 z1 fun u t => z2 r2 H2 R2 .refl u t⟩⟩
/-! slices -/
def tDO (K : PySem.W.Frag) (WE : EW) (m : DS → M (Option Int)) : TO := fun s H Q => ∃ r S h, Rel K r S h s H ∧ Post K WE r S h s H (m S h) (fun o r' h' H' => Q o H')
def DO' (X : Cx) (WE : EW) (e : Option Expr) (m : DS → M (Option Int)) : Prop := PO X e (tDO X.K WE m)
theorem PO.imp {e : Option Expr} {t t' : TO} (p : PO X e t) (i : ∀ s H Q, t' s H Q → t s H Q) : PO X e t' := ⟨fun a b c d Q I q => p.run a b c d Q I (i _ _ _ q)⟩
def oNone : DS → M (Option Int) := fun _ => ret none
def oSome (m : DS → M D) : DS → M (Option Int) := fun S => bd (m S) fun d => match d with
  | .t (.int i) => ret (some i)
  | _ => fail
theorem do_none : DO' X WE none oNone := PO.imp po_none fun s H Q ⟨r, S, h, R, p⟩ => p r H R .refl
theorem do_some {e : Expr} {m : DS → M D} (he : DE X WE e m) : DO' X WE (some e) (oSome m) :=
  PO.imp (po_some he) fun s H Q ⟨r, S, h, R, p⟩ => ⟨r, S, h, R, p.bd.mono fun d r1 h1 H1 R1 E1 q v dv => by
    cases d with
    | t d =>
      cases d with
      | int i => cases dv; exact ⟨i, rfl, q r1 H1 R1 .refl⟩
      | _ => exact False.elim q
    | _ => exact False.elim q⟩
def cutP {α : Type} (xs : List α) (lo hi : Option Int) : List α := (xs.drop (HT.sIx xs.length 0 lo)).take (HT.sIx xs.length xs.length hi - HT.sIx xs.length 0 lo)
theorem trs_cut {L : Addr → Prop} {H : Hp} {vs : List V} {ds : List PyData} (lo hi : Option Int) (t : TRs K L H vs ds) : TRs K L H (cutV vs lo hi) (cutP ds lo hi) := by
  unfold cutV cutP
  rw [t.length]
  exact (t.drop _).take _
/-- the slice, c: a list's slice is live -/
def slM (c : Bool) (x : PyData) (lo hi : Option Int) : M D := match x with
  | .str z => if z.length ≤ sizeLine then ret (.t (.str (cutS z lo hi))) else fail
  | .list ds => mk c (cutP ds lo hi)
  | .tuple ds => ret (.t (.tuple (cutP ds lo hi)))
  | _ => fail
def dSl (c : Bool) (m : DS → M D) (ml mh : DS → M (Option Int)) : DS → M D := fun S => bd (m S) fun a => bd (ml S) fun lo => bd (mh S) fun hi => bd (rdw a) fun x => slM c x lo hi
theorem de_sl (c : Bool) {e : Expr} {lo hi : Option Expr} {m : DS → M D} {ml mh : DS → M (Option Int)} {p2 pos : Pos} (he : DE X WE e m) (hl : DO' X WE lo ml) (hh : DO' X WE hi mh) : DE X WE (.Subscript e (.Slice lo hi none p2) pos) (dSl c m ml mh) :=
  PE.imp (pe_slice ((sl_str.or sl_list).or sl_tupA) he hl hh) fun s H Q ⟨r0, S, h, R, p⟩ => ⟨r0, S, h, R, p.bd.mono fun a r1 h1 H1 R1 E1 q v dv => ⟨r1, S, h1, R1, q.bd.mono fun lo r2 h2 H2 R2 E2 q2 => ⟨r2, S, h2, R2, q2.bd.mono fun hi r3 h3 H3 R3 E3 q3 => by
    obtain ⟨x, x1, x2⟩ := rdw_ok R3 ((dv.ext E2).ext E3) q3.bd
    unfold slM at x2
    split at x2
    · split at x2
      · rename_i hz
        cases x1
        exact .inl (.inl ⟨_, rfl, hz, x2 r3 H3 R3 .refl _ (.str _)⟩)
      · exact False.elim x2
    · obtain ⟨p, ys, rfl, e1, t1⟩ := x1
      refine .inl (.inr ⟨p, ys, rfl, e1, fun p np => ?_⟩)
      obtain ⟨d, r', h', R', E', d1, g1⟩ := mk_ok R3 (trs_cut lo hi t1) np x2
      exact g1 _ d1
    · rename_i ds
      cases x1 with
      | @tup p ys _ e1 n1 t1 =>
        refine .inr ⟨p, ys, rfl, SqT.of e1, fun w => ?_, fun w p np => ?_⟩
        · have e2 : cutP ds lo hi = ds := by
            unfold cutP
            rw [← t1.length, w.1, w.2]
            have := t1.length
            simp [this]
          rw [e2] at x2
          exact x2 r3 H3 R3 .refl _ (.tup e1 n1 t1)
        · have g : Grow H3 (upd H3 p (.tup (cutV ys lo hi))) := Grow.upd np
          have E4 : Ext r3 h3 H3 r3 h3 (upd H3 p (.tup (cutV ys lo hi))) := .grow g
          exact x2 r3 _ (R3.grow g) E4 _ (.tup upd_same (R3.fresh np) (TRs.mono E4.keep _ _ (trs_cut lo hi t1)))
    · exact False.elim x2⟩⟩⟩
/-- xs[::-1] of a list -/
def dRev (c : Bool) (m : DS → M D) : DS → M D := fun S => bd (m S) fun a => bd (rdw a) fun x => match x with
  | .list ds => mk c ds.reverse
  | _ => fail
theorem de_rev (c : Bool) {e : Expr} {m : DS → M D} {k : Nat} {p1 p2 p3 pos : Pos} (he : DE X WE e m) : DE X WE (.Subscript e (.Slice none none (some (.UnaryOp .USub (.Constant (.int 1) k p1) p2)) p3) pos) (dRev c m) :=
  PE.imp (pe_revL he) fun s H Q ⟨r0, S, h, R, p⟩ => ⟨r0, S, h, R, p.bd.mono fun a r1 h1 H1 R1 E1 q v dv => by
    obtain ⟨x, x1, x2⟩ := rdw_ok R1 dv q.bd
    cases x with
    | list ds =>
      obtain ⟨p, ys, rfl, e1, t1⟩ := x1
      refine ⟨p, ys, rfl, e1, fun p np => ?_⟩
      obtain ⟨d, r', h', R', E', d1, g1⟩ := mk_ok R1 t1.reverse np x2
      exact g1 _ d1
    | _ => exact False.elim x2⟩
/-- new lists by + and * -/
def dCat (c : Bool) (ma mb : DS → M D) : DS → M D := fun S => bd (ma S) fun a => bd (mb S) fun b => bd (rd a) fun x => bd (rd b) fun y => match x, y with
  | .list xs, .list ys => if xs.length + ys.length ≤ sizeLine then mk c (xs ++ ys) else fail
  | _, _ => fail
theorem de_cat (c : Bool) {a b : Expr} {ma mb : DS → M D} {pos : Pos} (ha : DE X WE a ma) (hb : DE X WE b mb) : DE X WE (.BinOp a .Add b pos) (dCat c ma mb) :=
  PE.imp (pe_op op_cat ha hb) fun s H Q ⟨r0, S, h, R, p⟩ => ⟨r0, S, h, R, p.bd.mono fun a r1 h1 H1 R1 E1 q v dv => ⟨r1, S, h1, R1, q.bd.mono fun b r2 h2 H2 R2 E2 q2 w dw => by
    obtain ⟨x, x1, x2⟩ := rd_ok R2 (dv.ext E2) q2.bd
    obtain ⟨y, y1, y2⟩ := rd_ok R2 dw x2.bd
    cases x with
    | list xs => cases y with
      | list ys =>
        obtain ⟨a1, vs, rfl, e1, t1⟩ := x1
        obtain ⟨a2, ws, rfl, e2, t2⟩ := y1
        simp only [] at y2
        split at y2
        · rename_i hl
          refine ⟨a1, a2, vs, ws, rfl, rfl, e1, e2, by rw [t1.length, t2.length]; exact hl, fun p np => ?_⟩
          obtain ⟨d, r', h', R', E', d1, g1⟩ := mk_ok R2 (t1.append t2) np y2
          exact g1 _ d1
        · exact False.elim y2
      | _ => exact False.elim y2
    | _ => exact False.elim y2⟩⟩
def dRep (c : Bool) (ma mb : DS → M D) : DS → M D := fun S => bd (ma S) fun a => bd (mb S) fun b => bd (rd a) fun x => bd (rd b) fun y => match x, y with
  | .list xs, .int n => if okI n && decide (xs.length * n.toNat ≤ sizeLine) then mk c (List.replicate n.toNat xs).flatten else fail
  | _, _ => fail
theorem de_rep (c : Bool) {a b : Expr} {ma mb : DS → M D} {pos : Pos} (ha : DE X WE a ma) (hb : DE X WE b mb) : DE X WE (.BinOp a .Mult b pos) (dRep c ma mb) :=
  PE.imp (pe_op op_rep ha hb) fun s H Q ⟨r0, S, h, R, p⟩ => ⟨r0, S, h, R, p.bd.mono fun a r1 h1 H1 R1 E1 q v dv => ⟨r1, S, h1, R1, q.bd.mono fun b r2 h2 H2 R2 E2 q2 w dw => by
    obtain ⟨x, x1, x2⟩ := rd_ok R2 (dv.ext E2) q2.bd
    obtain ⟨y, y1, y2⟩ := rd_ok R2 dw x2.bd
    cases x with
    | list xs => cases y with
      | int n =>
        obtain ⟨a1, vs, rfl, e1, t1⟩ := x1
        cases y1
        simp only [] at y2
        split at y2
        · rename_i hl
          rw [Bool.and_eq_true] at hl
          refine ⟨a1, n, vs, rfl, rfl, e1, (okI_of hl.1).1, (okI_of hl.1).2, by rw [t1.length]; exact of_decide_eq_true hl.2, fun p np => ?_⟩
          obtain ⟨d, r', h', R', E', d1, g1⟩ := mk_ok R2 (t1.rep _) np y2
          exact g1 _ d1
        · exact False.elim y2
      | _ => exact False.elim y2
    | _ => exact False.elim y2⟩⟩
/-! isinstance -/
def tyP : PyData → String
  | .none => "NoneType"
  | .bool _ => "bool"
  | .int _ => "int"
  | .str _ => "str"
  | .list _ => "list"
  | .tuple _ => "tuple"
  | .dict _ => "dict"
def isiS (T t : String) : Bool := t == T || (T == "int" && t == "bool")
def isiB (T : String) (d : PyData) : Bool := isiS T (tyP d)
def dIsi (T : String) (m : DS → M D) : DS → M D := fun S => bd (m S) fun a => bd (rd a) fun x => ret (.t (.bool (isiB T x)))
theorem tyx_of {L : Addr → Prop} {H : Hp} {v : V} {d : PyData} (w : WR K L H v d) : TyX K H v (.type (tyP d)) := by
  cases d with
  | none => cases w; exact .base .non
  | bool b => cases w; exact .base (.bl b)
  | int i => cases w; exact .base (.int i)
  | str x => cases w; exact .base (.str x)
  | list ds => obtain ⟨a, xs, rfl, e, t⟩ := w; exact .base (.lst e)
  | tuple ds => cases w with | tup e n t => exact .base (.tup e)
  | dict kvs => cases w
def isiT : List String := ["int", "bool", "str", "list", "tuple", "dict"]
def tyL : List String := ["NoneType", "bool", "int", "str", "list", "tuple", "dict"]
theorem kit_all : (isiT.all fun T => tyL.all fun t => decide (kitB t T = some (isiS T t))) = true := by decide +kernel
theorem tyP_mem (d : PyData) : tyP d ∈ tyL := by cases d <;> simp [tyP, tyL]
theorem kit_isi {T : String} (hT : isiT.contains T = true) (d : PyData) : PySem.W.kitOne K (.type (tyP d)) (.type T) = some (isiB T d) := by
  have h := List.all_eq_true.mp kit_all T (by simpa using hT)
  exact kit_ty (of_decide_eq_true (List.all_eq_true.mp h _ (tyP_mem d)))
theorem de_isi (T : String) {e ty : Expr} {m : DS → M D} {p pos : Pos} (hT : isiT.contains T = true) (gl : Gl X "isinstance") (hm : X.mg "isinstance" = none) (ht : PE X ty (tC (.ty T))) (he : DE X WE e m)
    (hs1 : starEach [e, ty] X.env = (false, eval e X.env) :: starEach [ty] X.env := by rfl) (hs2 : starEach [ty] X.env = (false, eval ty X.env) :: starEach [] X.env := by rfl) (hpl : (backTo pos (starEach [ty] X.env)).any (·.1) = false := by rfl) : DE X WE (.Call (.Name "isinstance" p) [e, ty] [] pos) (dIsi T m) :=
  PE.imp (pe_callB call_isi gl hm (by decide +kernel) (pa_cons he (pa_cons ht pa_nil hs2) hs1) (by decide) (by decide) hs1 hpl) fun s H Q ⟨r0, S, h, R, p⟩ => ⟨r0, S, h, R, p.bd.mono fun a r1 h1 H1 R1 E1 q v dv => by
    obtain ⟨x, x1, x2⟩ := rd_ok R1 dv q.bd
    exact ⟨v, .ty T, _, _, isiB T x, rfl, .ty T, tyx_of x1, kit_isi hT x, x2 r1 H1 R1 .refl _ (.bl _)⟩⟩
/-! repr -/
def okR (d : PyData) : Bool := d.showable && (SeqAt.shaped d && decide (d.shown.length ≤ sizeLine))
def reprP : List PyData → Option PyData
  | [d] => if okR d then some (.str d.shown) else none
  | _ => none
theorem call_reprA (hg : X.A.guards = some []) (hu : X.A.units + 70 < cLine) : CallR X (.builtin "repr") (fun xs H Q => ∃ x d, xs = [x] ∧ Dp X.K H x d ∧ okR d = true ∧ Q (.str d.shown) H) := by
  intro pins s σ H xs us Q I rv h
  obtain ⟨x, d, rfl, dp, ok, q⟩ := h
  obtain ⟨u, rfl, r1⟩ := vals1 rv
  unfold okR at ok
  rw [Bool.and_eq_true, Bool.and_eq_true] at ok
  obtain ⟨o1, o2, o3⟩ := ok
  have o3 := of_decide_eq_true o3
  have dep : d.depth ≤ 64 := SeqAt.depth_of_shaped o2
  have lay : d.canLay0 = true := by
    unfold SeqAt.shaped at o2
    exact (Bool.and_eq_true_iff.mp o2).1
  have nd : d.hasDict = false := PyData.hasDict_of_canLay d lay
  obtain ⟨as, rd⟩ := Dp.reads I d x u dp r1
  have big : ∀ a, u = .ref a → wpAny (model X.prog X.w) X.A (call (.builtin "repr") [u]) (EP X pins σ Q) X.xe s := by
    rintro a rfl
    exact repr_of_reads' rd o1 (PyData.noDict_hsm nd) hg (by omega) (fun _ _ e => e) (fun h' u tk hk => ⟨.str d.shown, H, I.kept hk, ⟨_, rfl⟩, q⟩) o3
  cases dp with
  | non =>
    cases r1
    exact P.repr_of_none ⟨.str _, H, I.tok _, ⟨_, rfl⟩, q⟩
  | bl b =>
    cases r1
    exact P.repr_of_bool ⟨.str _, H, I.tok _, ⟨_, rfl⟩, q⟩
  | int i =>
    obtain ⟨t, rfl⟩ := r1
    exact P.repr_of_int (of_decide_eq_true (by simpa [PyData.showable] using o1)) ⟨.str _, H, I.tok _, ⟨_, rfl⟩, q⟩
  | str z =>
    obtain ⟨t, rfl⟩ := r1
    exact P.repr_of_str ⟨.str _, H, I.tok _, ⟨_, rfl⟩, q⟩ (by simpa [PyData.shown] using o3)
  | lst e t => exact big _ r1
  | tup e t => exact big _ r1
end
end DL
set_option Elab.async false
set_option linter.all false
set_option maxRecDepth 100000
set_option maxHeartbeats 2000000
set_option autoImplicit false
namespace DL
open PySem PySem.Spec L2
open PyProof.Rows hiding St

section
variable {K : PySem.W.Frag} {X : Cx} {WE : EW}
theorem WRs.one {L : Addr → Prop} {H : Hp} {vs : List V} {a : PyData} (w : WRs K L H vs [a]) : ∃ v, vs = [v] ∧ WR K L H v a := by
  cases w with
  | cons x y => cases y; exact ⟨_, rfl, x⟩
theorem pc_repr : PureC K (fun xs H Q => ∃ x d, xs = [x] ∧ Dp K H x d ∧ okR d = true ∧ Q (.str d.shown) H) reprP := by
  intro L H vs xs z Q hL w0 e k
  unfold reprP at e
  split at e
  · obtain ⟨v, rfl, w⟩ := w0.one
    split at e
    · rename_i ok
      cases e
      exact ⟨v, _, rfl, w.dp, ok, k _ H Grow.refl (.str _)⟩
    · cases e
  · cases e
/-! methods of built-in types -/
def tykP (T : String) : PyData → Bool
  | .str _ => T == "str"
  | .list _ => T == "list"
  | .int _ => T == "int"
  | _ => false
theorem tyk_of {T : String} {L : Addr → Prop} {H : Hp} {v : V} {d : PyData} (w : WW K L H v d) (h : tykP T d = true) : tyV K T v H := by
  cases d with
  | str x => cases w; exact beq_iff_eq.mp h
  | int i => cases w; exact beq_iff_eq.mp h
  | list ds => obtain ⟨a, xs, rfl, e, t⟩ := w; exact .inl ⟨beq_iff_eq.mp h, xs, e⟩
  | _ => cases h
def PureM (K : PySem.W.Frag) (r : V → List V → Hp → VK → Prop) (g : PyData → List PyData → Option PyData) : Prop :=
  ∀ (L : Addr → Prop) (H : Hp) (x : V) (vs : List V) (a : PyData) (xs : List PyData) (z : PyData) (Q : VK), (∀ p, L p → ∃ o, H p = some o) → WW K L H x a → WWs K L H vs xs → g a xs = some z → (∀ v H', Grow H H' → TR K L H' v z → Q v H') → r x vs H Q
def dM (T : String) (g : PyData → List PyData → Option PyData) (mo : DS → M D) (ms : DS → M (List D)) : DS → M D := fun S => bd (mo S) fun o => bd (rdw o) fun x0 => if tykP T x0 then bd (ms S) fun ds => bd (rdw o) fun x => bd (rdws ds) fun xs => bd (opt (g x xs)) fun z => ret (.t z) else fail
theorem m_imp {T : String} {r : V → List V → Hp → VK → Prop} {g : PyData → List PyData → Option PyData} {mo : DS → M D} {ms : DS → M (List D)} (hg : PureM K r g) (s : St) (H : Hp) (Q : VK) : tD K WE (dM T g mo ms) s H Q → tBM K T r (tD K WE mo) (tDA K WE ms) s H Q := by
  rintro ⟨r0, S, h, R, p⟩
  refine ⟨r0, S, h, R, p.bd.mono fun o r1 h1 H1 R1 E1 q v dv => ?_⟩
  obtain ⟨x0, a1, a2⟩ := rdw_ok R1 dv q.bd
  split at a2
  · rename_i hk
    refine ⟨tyk_of a1 hk, r1, S, h1, R1, a2.bd.mono fun ds r2 h2 H2 R2 E2 q2 vs dvs => ?_⟩
    obtain ⟨x, x1, x2⟩ := rdw_ok R2 (dv.ext E2) q2.bd
    obtain ⟨xs, y1, y2⟩ := rdws_ok R2 dvs x2.bd
    obtain ⟨z, z1, z2⟩ := y2.bd.opt R2
    exact hg (Lv r2 h2) H2 v vs x xs z Q (fun p l => R2.lv l) x1 y1 z1 fun u H' gr t => z2 r2 H' (R2.grow gr) (.grow gr) u t
  · exact False.elim a2
theorem m0_imp {T : String} {r : V → List V → Hp → VK → Prop} {g : PyData → List PyData → Option PyData} {mo : DS → M D} (hg : PureM K r g) (s : St) (H : Hp) (Q : VK) : tD K WE (dM T g mo aNil) s H Q → tBM0 K T r (tD K WE mo) s H Q := by
  rintro ⟨r0, S, h, R, p⟩
  refine ⟨r0, S, h, R, p.bd.mono fun o r1 h1 H1 R1 E1 q v dv => ?_⟩
  obtain ⟨x0, a1, a2⟩ := rdw_ok R1 dv q.bd
  split at a2
  · rename_i hk
    refine ⟨tyk_of a1 hk, ?_⟩
    have a3 := a2.bd.ret R1
    obtain ⟨x, x1, x2⟩ := rdw_ok R1 dv a3.bd
    obtain ⟨xs, y1, y2⟩ := rdws_ok R1 .nil x2.bd
    obtain ⟨z, z1, z2⟩ := y2.bd.opt R1
    exact hg (Lv r1 h1) H1 v [] x xs z Q (fun p l => R1.lv l) x1 y1 z1 fun u H' gr t => z2 r1 H' (R1.grow gr) (.grow gr) u t
  · exact False.elim a2
section
variable {o e : Expr} {es : List Expr} {mo : DS → M D} {ms : DS → M (List D)} {name : Str} {apos cpos : Pos} {T id : String} {r : V → List V → Hp → VK → Prop} {g : PyData → List PyData → Option PyData}
theorem de_bm0 (pa : PlainAttrs T) (slot : Slot T name id) (hty : typeOf (.builtin id) = pure (.type "method_descriptor")) (hm : MtR X id r) (hg : PureM X.K r g) (ho : DE X WE o mo) (hbase : attributeBase o name X.env (eval o X.env) = eval o X.env := by rfl) (hline : (apos.endLine == cpos.line) = true := by rfl) : DE X WE (.Call (.Attribute o name apos) [] [] cpos) (dM T g mo aNil) :=
  PE.imp (pe_bm0 pa slot hty hm ho hbase hline) (m0_imp hg)
theorem de_bm (pa : PlainAttrs T) (slot : Slot T name id) (hty : typeOf (.builtin id) = pure (.type "method_descriptor")) (hm : MtR X id r) (hg : PureM X.K r g) (ho : DE X WE o mo) (ha : DA X WE (e :: es) ms)
    (hbase : attributeBase o name X.env (eval o X.env) = eval o X.env := by rfl)
    (hfew : ((backTo cpos (starEach (e :: es) X.env)).all (fun x => !x.1) && (backToKw cpos (keywordEach [] X.env)).all (fun x => x.1.isSome) && decide ((e :: es).length + ([] : List Keyword).length + (if ([] : List Keyword).isEmpty then 0 else 1) < 30)) = true := by rfl)
    (hline : (apos.endLine == cpos.line) = true := by rfl) (hs : starEach (e :: es) X.env = (false, eval e X.env) :: starEach es X.env := by rfl) (hplain : (backTo cpos (starEach es X.env)).any (·.1) = false := by rfl) :
    DE X WE (.Call (.Attribute o name apos) (e :: es) [] cpos) (dM T g mo ms) :=
  PE.imp (pe_bm pa slot hty hm ho ha hbase hfew hline hs hplain) (m_imp hg)
/-- xs.append(e) -/
def dApp (mo me : DS → M D) : DS → M D := fun S => bd (mo S) fun o => match o with
  | .c n => bd (getC n) fun _ => bd (me S) fun v => bd (fz v) fun z => bd (getC n) fun ds => if ds.length < sizeLine then bd (setC n (ds ++ [z])) fun _ => ret (.t .none) else fail
  | _ => fail
theorem app_imp {mo me : DS → M D} (s : St) (H : Hp) (Q : VK) : tD K WE (dApp mo me) s H Q → tBM K "list" rAppend (tD K WE mo) (tCons (tD K WE me) tNil) s H Q := by
  rintro ⟨r0, S, h, R, p⟩
  refine ⟨r0, S, h, R, p.bd.mono fun o r1 h1 H1 R1 E1 q v dv => ?_⟩
  cases o with
  | c n =>
    have q1 := q.bd
    obtain ⟨a, qa, rfl⟩ := dv
    unfold getC at q1
    cases ec : h1[n]? with
    | none => simp only [ec] at q1; exact False.elim q1
    | some cc =>
      cases cc with
      | gone d => simp only [ec] at q1; exact False.elim q1
      | lst ds0 =>
        simp only [ec] at q1
        obtain ⟨xs0, x1, x2⟩ := R1.cell n _ a ec qa
        refine ⟨.inl ⟨rfl, xs0, SqL.of x1⟩, r1, S, h1, R1, (q1 r1 H1 R1 .refl).bd.mono fun y r2 h2 H2 R2 E2 q2 w dw => ?_⟩
        obtain ⟨z, h3, R3, E3, z1, z2⟩ := fz_ok R2 dw q2.bd
        have z3 := z2.bd
        unfold getC at z3
        have qa2 : r2[n]? = some a := by
          obtain ⟨l, pl⟩ := E2.pre
          rw [pl, List.getElem?_append_left (List.getElem?_eq_some_iff.mp qa).1]
          exact qa
        cases ec2 : h3[n]? with
        | none => simp only [ec2] at z3; exact False.elim z3
        | some cc =>
          cases cc with
          | gone d => simp only [ec2] at z3; exact False.elim z3
          | lst ds =>
            simp only [ec2] at z3
            have z4 := z3 r2 H2 R3 .refl
            simp only [] at z4
            obtain ⟨xs, y1, y2⟩ := R3.cell n _ a ec2 qa2
            split at z4
            · rename_i hl
              obtain ⟨R4, E4⟩ := R3.wr ec2 qa2 (y2.append (.cons z1 .nil))
              refine ⟨a, xs, w, rfl, rfl, y1, by rw [y2.length]; exact hl, ?_⟩
              exact ((z4.bd r2 _ R4 E4).ret R4) _ .non
            · exact False.elim z4
  | _ => exact False.elim q
theorem de_app {ms : DS → M D} (ho : DE X WE o mo) (he : DE X WE e ms) (hbase : attributeBase o "append" X.env (eval o X.env) = eval o X.env := by rfl)
    (hfew : ((backTo cpos (starEach [e] X.env)).all (fun x => !x.1) && (backToKw cpos (keywordEach [] X.env)).all (fun x => x.1.isSome) && decide ([e].length + ([] : List Keyword).length + (if ([] : List Keyword).isEmpty then 0 else 1) < 30)) = true := by rfl)
    (hline : (apos.endLine == cpos.line) = true := by rfl) (hs : starEach [e] X.env = (false, eval e X.env) :: starEach [] X.env := by rfl) (hplain : (backTo cpos (starEach [] X.env)).any (·.1) = false := by rfl) :
    DE X WE (.Call (.Attribute o "append" apos) [e] [] cpos) (dApp mo ms) :=
  PE.imp (pe_bm PySem.F.plainAttrs_list PySem.F.slot_list_append PySem.F.type_list_append mt_append ho (pa_cons he pa_nil hs) hbase hfew hline hs hplain) app_imp
end
/-! texts -/
def strsP : List PyData → Option (List Str)
  | [] => some []
  | .str x :: ds => (strsP ds).map (x :: ·)
  | _ => none
theorem strsP_of : ∀ {ds : List PyData} {ns : List Str}, strsP ds = some ns → ds = ns.map .str
  | [], ns, e => by cases e; rfl
  | d :: ds, ns, e => by
    cases d with
    | str i =>
      simp only [strsP] at e
      cases q : strsP ds with
      | none => rw [q] at e; cases e
      | some ms => rw [q] at e; cases e; rw [strsP_of q]; rfl
    | _ => cases e
theorem strsP_map (ns : List Str) : strsP (ns.map .str) = some ns := by
  induction ns with
  | nil => rfl
  | cons n ns ih => simp [strsP, ih]
theorem trs_strs_inv {L : Addr → Prop} {H : Hp} : ∀ {ns : List Str} {vs : List V}, TRs K L H vs (ns.map PyData.str) → vs = ns.map V.str
  | [], _, h => by cases h; rfl
  | n :: ns, _, h => by
    cases h with
    | cons a b => cases a; rw [trs_strs_inv b]; rfl
theorem trs_strs {L : Addr → Prop} {H : Hp} : ∀ ns : List Str, TRs K L H (ns.map V.str) (ns.map PyData.str)
  | [] => .nil
  | n :: ns => .cons (.str n) (trs_strs ns)
def joinG (x : Str) (ds : List PyData) : Option PyData := (strsP ds).bind fun ys => if (ys.map (·.length)).sum + ys.length * x.length ≤ 16777216 then some (.str (Txt.join x ys)) else none
def joinP : PyData → List PyData → Option PyData
  | .str x, [.list ds] => joinG x ds
  | .str x, [.tuple ds] => joinG x ds
  | _, _ => none
theorem pm_join : PureM K (fun x xs H Q => ∃ a p, ∃ ys : List Str, x = .str a ∧ xs = [.ref p] ∧ (SqL K H p (ys.map V.str) ∨ SqT K H p (ys.map V.str)) ∧ (ys.map (·.length)).sum + ys.length * a.length ≤ 16777216 ∧ Q (.str (Txt.join a ys)) H) joinP := by
  intro L H x vs a xs z Q hL wa w0 e k
  unfold joinP at e
  split at e
  · rename_i x ds
    obtain ⟨v, rfl, w⟩ := w0.one
    obtain ⟨p, ys, rfl, e1, t1⟩ := w
    cases wa
    unfold joinG at e
    cases q : strsP ds with
    | none => rw [q] at e; cases e
    | some ss =>
      rw [q] at e
      simp only [Option.bind] at e
      split at e
      · rename_i hl
        cases e
        rw [strsP_of q] at t1
        have := trs_strs_inv t1
        subst this
        exact ⟨_, p, ss, rfl, rfl, .inl e1, hl, k _ H Grow.refl (.str _)⟩
      · cases e
  · rename_i x ds
    obtain ⟨v, rfl, w⟩ := w0.one
    cases w with
    | @tup p ys _ e1 n1 t1 =>
      cases wa
      unfold joinG at e
      cases q : strsP ds with
      | none => rw [q] at e; cases e
      | some ss =>
        rw [q] at e
        simp only [Option.bind] at e
        split at e
        · rename_i hl
          cases e
          rw [strsP_of q] at t1
          have := trs_strs_inv t1
          subst this
          exact ⟨_, p, ss, rfl, rfl, .inr (SqT.of e1), hl, k _ H Grow.refl (.str _)⟩
        · cases e
  · cases e
/-- text methods without arguments -/
def m0P (C : Str → Bool) (g : Str → PyData) : PyData → List PyData → Option PyData
  | .str x, [] => if C x then some (g x) else none
  | _, _ => none
theorem pm_s0 {C : Str → Bool} {Cp : Str → Prop} {g : Str → PyData} {gv : Str → V} (hC : ∀ x, C x = true → Cp x) (hg : ∀ x L H, TR K L H (gv x) (g x)) : PureM K (fun x xs H Q => ∃ a, x = .str a ∧ xs = [] ∧ Cp a ∧ Q (gv a) H) (m0P C g) := by
  intro L H x vs a xs z Q hL wa w0 e k
  unfold m0P at e
  split at e
  · cases wa; cases w0
    split at e
    · rename_i hl
      cases e
      exact ⟨_, rfl, rfl, hC _ hl, k _ H Grow.refl (hg _ _ _)⟩
    · cases e
  · cases e
def fewS (x : Str) : Bool := decide (x.length ≤ 5592405)
theorem fewS_of (x : Str) (h : fewS x = true) : x.length ≤ 5592405 := of_decide_eq_true h
def anyS (_ : Str) : Bool := true
def upP := m0P fewS fun x => .str (Txt.upper x)
def lowP := m0P fewS fun x => .str (Txt.lower x)
def alphaP := m0P anyS fun x => .bool (Txt.isalpha x)
def islowP := m0P anyS fun x => .bool (Txt.islower x)
theorem pm_up : PureM K (fun x xs H Q => ∃ a, x = .str a ∧ xs = [] ∧ a.length ≤ 5592405 ∧ Q (.str (Txt.upper a)) H) upP := pm_s0 fewS_of fun _ _ _ => .str _
theorem pm_low : PureM K (fun x xs H Q => ∃ a, x = .str a ∧ xs = [] ∧ a.length ≤ 5592405 ∧ Q (.str (Txt.lower a)) H) lowP := pm_s0 fewS_of fun _ _ _ => .str _
theorem pm_alpha : PureM K (fun x xs H Q => ∃ a, x = .str a ∧ xs = [] ∧ True ∧ Q (.bl (Txt.isalpha a)) H) alphaP := pm_s0 (fun _ _ => trivial) fun _ _ _ => .bl _
theorem pm_islow : PureM K (fun x xs H Q => ∃ a, x = .str a ∧ xs = [] ∧ True ∧ Q (.bl (Txt.islower a)) H) islowP := pm_s0 (fun _ _ => trivial) fun _ _ _ => .bl _
def starts3P : PyData → List PyData → Option PyData
  | .str x, [.str y, .int i] => some (.bool (Txt.startswith3 x y i))
  | _, _ => none
theorem pm_starts3 : PureM K (fun x xs H Q => ∃ (a b : Str) (i : Int), x = .str a ∧ xs = [.str b, .int i] ∧ Q (.bl (Txt.startswith3 a b i)) H) starts3P := by
  intro L H x vs a xs z Q hL wa w0 e k
  unfold starts3P at e
  split at e
  · obtain ⟨v, u, rfl, w1, w2⟩ := w0.two
    cases wa; cases w1; cases w2; cases e
    exact ⟨_, _, _, rfl, rfl, k _ H Grow.refl (.bl _)⟩
  · cases e
/-- ord of a sign -/
def ordP : List PyData → Option PyData
  | [.str x] => match x.cps.toList with
    | [c] => some (.int c)
    | _ => none
  | _ => none
end
end DL
set_option Elab.async false
set_option linter.all false
set_option maxRecDepth 100000
set_option maxHeartbeats 2000000
set_option autoImplicit false
namespace DL
open PySem PySem.Spec L2
open PyProof.Rows hiding St

/-- what the top has left -/
structure Tx (K : PySem.W.Frag) (mg : Str → Option Value) (fn : List He.DefD) (fa : List He.Fa) (fdf : Nat → FuncData) : Prop where
  d : ∀ (i : Nat) (d : He.DefD), fn[i]? = some d → FunD K d.name d.qual d.params d.body d.scope (d.dvs K) (d.kws K) (He.fAd K d.at_) (fdf i)
  g : ∀ (i : Nat) (x : Str), fa[i]? = some (.glo x) → mg x = some (.ref (He.ga K x))
  f : ∀ (i : Nat) (x : Str), fa[i]? = some (.free x) → mg x = none
  n : ∀ (i : Nat) (x : Str) (z : Int), fa[i]? = some (.int x z) → ∃ t, mg x = some (.int z t)
  s : ∀ (i : Nat) (x z : Str), fa[i]? = some (.str x z) → ∃ t, mg x = some (.str z t)
theorem Tx.of {K : PySem.W.Frag} {mg : Str → Option Value} {fn : List He.DefD} {fa : List He.Fa} {h : Heap} (X : K.In h) (G : h.Ns mainGlobals mg) (c : He.SaysD fa fn K) (d0 : FuncData) : ∃ fdf, Tx K mg fn fa fdf := by
  have all : ∀ i : Nat, ∃ fd, ∀ d : He.DefD, fn[i]? = some d → FunD K d.name d.qual d.params d.body d.scope (d.dvs K) (d.kws K) (He.fAd K d.at_) fd := by
    intro i
    cases e : fn[i]? with
    | none => exact ⟨d0, fun d q => by cases q⟩
    | some d =>
      obtain ⟨fd, F⟩ := c.def_ i e
      exact ⟨fd, fun d' q => by cases q; exact F⟩
  exact ⟨fun i => Classical.choose (all i), fun i d q => Classical.choose_spec (all i) d q, fun i x q => He.glo_ok X G (c.fact i q), fun i x q => He.free_ok X G (c.fact i q), fun i x z q => He.int_ok X G (c.fact i q), fun i x z q => He.str_ok X G (c.fact i q)⟩
/-- the fuel of a while loop -/
def fu : Nat := 1099511627776
section
variable {X : Cx} {WE : EW} {K : PySem.W.Frag}
theorem takesF : Takes X (wx X.K WEF) := fun u s' ⟨a, B, sI, pins, σ, H, cls, d, e1, e2, e3, e4, e5, e6, e7, e8, c, p, r, h, S, e9, e10, e11⟩ => e11.elim
theorem dv (i : Nat) {x : Str} {pos : Pos} (hN : X.N[i]? = some x := by rfl) (hv : Vis X.env.scope x := by first | exact Or.inl rfl | exact Or.inr (Or.inl rfl) | exact Or.inr (Or.inr rfl)) (hd : (x == ("__debug__" : Str)) = false := by decide) (hcd : (x == ("__classdict__" : Str)) = false := by decide) : DE X WE (.Name x pos) (eVar i) := de_var hN hv hd hcd
theorem dset (i : Nat) {x : Str} {e : Expr} {m : DS → M D} {pos pos' : Pos} (hN : X.N.Nodup) (he : DE X WE e m) (hi : X.N[i]? = some x := by rfl) (hx : Loc X.env.scope x := by first | exact Or.inl rfl | exact Or.inr rfl) (hs : swapsWith e (some (.Name x pos')) pos.line X.env = pure false := by rfl) (hf : X.fn x = true ∨ X.env.scope.names.lookup x = some .local := by first | exact .inl rfl | exact .inr rfl) : DSt X WE (.Assign [.Name x pos'] e pos) (sSet i m) := ds_set hN hi hx he hs hf
theorem dgn (i : Nat) {x : Str} {pos : Pos} (hN : X.N.Nodup) (hi : X.N[i]? = some x := by rfl) (hx : Loc X.env.scope x := by first | exact Or.inl rfl | exact Or.inr rfl) (hf : X.fn x = true ∨ X.env.scope.names.lookup x = some .local := by first | exact .inl rfl | exact .inr rfl) : DG X (.Name x pos) (gN i) [i] := dg_name hN hi hx hf
theorem hu70 {k : Nat} {A : Around} (r : Room k A) : A.units + 70 < cLine := by have := r.un; omega
end
section
variable {X : Cx} {WE : EW}
/-- list(range(..)) -/
theorem trs_rg {K : PySem.W.Frag} {L : Addr → Prop} {H : Hp} (a b : Int) : TRs K L H (rgV a b) (rngD a (b - a).toNat) := by
  unfold rgV rngD
  have key : ∀ l : List Nat, TRs K L H (l.map fun (i : Nat) => V.int (a + (i : Nat))) (l.map fun (i : Nat) => PyData.int (a + (i : Int))) := by
    intro l
    induction l with
    | nil => exact .nil
    | cons x l ih => exact .cons (.int _) ih
  exact key _
def rgOk (a b : Int) : Bool := inR a && (inR b && decide ((b - a).toNat ≤ 2 ^ 24))
theorem rgOk_of {a b : Int} (h : rgOk a b = true) : RgOk a b := by
  unfold rgOk at h
  rw [Bool.and_eq_true, Bool.and_eq_true] at h
  have h1 := of_decide_eq_true h.1
  have h2 := of_decide_eq_true h.2.1
  exact ⟨h1.1, h1.2, h2.1, h2.2, of_decide_eq_true h.2.2⟩
def dRg1 (c : Bool) (m : DS → M D) : DS → M D := fun S => bd (m S) fun d => match d with
  | .t (.int j) => if rgOk 0 j then mk c (rngD 0 (j - 0).toNat) else fail
  | _ => fail
def dRg2 (c : Bool) (ma mb : DS → M D) : DS → M D := fun S => bd (ma S) fun a => bd (mb S) fun b => match a, b with
  | .t (.int i), .t (.int j) => if rgOk i j then mk c (rngD i (j - i).toNat) else fail
  | _, _ => fail
theorem de_rg1 (c : Bool) {e : Expr} {m : DS → M D} {p p2 pos pos2 : Pos} (gl : Gl X "list") (hl : X.mg "list" = none) (gr : Gl X "range") (hr : X.mg "range" = none) (he : DE X WE e m) (n1 : starEach [e] X.env = (false, eval e X.env) :: starEach [] X.env := by rfl)
    (n2 : starEach [Expr.Call (.Name "range" p2) [e] [] pos2] X.env = (false, eval (Expr.Call (.Name "range" p2) [e] [] pos2) X.env) :: starEach [] X.env := by rfl) (hc : X.calm = true := by rfl) : DE X WE (.Call (.Name "list" p) [.Call (.Name "range" p2) [e] [] pos2] [] pos) (dRg1 c m) :=
  PE.imp (pe_listRg hc gl hl (prg_1 gr hr he n1) n2) fun s H Q ⟨r0, S, h, R, p⟩ => ⟨r0, S, h, R, p.bd.mono fun d r1 h1 H1 R1 E1 q v dv => by
    cases d with
    | t d =>
      cases d with
      | int j =>
        cases dv
        simp only [] at q
        split at q
        · rename_i ok
          refine ⟨j, rfl, rgOk_of ok, fun a na => ?_⟩
          obtain ⟨d, r', h', R', E', d1, g1⟩ := mk_ok R1 (trs_rg 0 j) na q
          exact g1 _ d1
        · exact False.elim q
      | _ => exact False.elim q
    | _ => exact False.elim q⟩
end
theorem v_len : bootBuiltins "len" = some (.builtin "len") := by decide +kernel
theorem v_abs : bootBuiltins "abs" = some (.builtin "abs") := by decide +kernel
theorem v_max : bootBuiltins "max" = some (.builtin "max") := by decide +kernel
theorem v_min : bootBuiltins "min" = some (.builtin "min") := by decide +kernel
theorem v_sum : bootBuiltins "sum" = some (.builtin "sum") := by decide +kernel
theorem v_all : bootBuiltins "all" = some (.builtin "all") := by decide +kernel
theorem v_any : bootBuiltins "any" = some (.builtin "any") := by decide +kernel
theorem v_repr : bootBuiltins "repr" = some (.builtin "repr") := by decide +kernel
theorem v_sorted : bootBuiltins "sorted" = some (.builtin "sorted") := by decide +kernel
theorem v_int : bootBuiltins "int" = some (.type "int") := by decide +kernel
theorem v_bool : bootBuiltins "bool" = some (.type "bool") := by decide +kernel
theorem v_str : bootBuiltins "str" = some (.type "str") := by decide +kernel
theorem v_list : bootBuiltins "list" = some (.type "list") := by decide +kernel
theorem v_tuple : bootBuiltins "tuple" = some (.type "tuple") := by decide +kernel
theorem v_dict : bootBuiltins "dict" = some (.type "dict") := by decide +kernel
theorem v_range : bootBuiltins "range" = some (.type "range") := by decide +kernel
end DL
set_option Elab.async false
set_option linter.all false
set_option maxRecDepth 100000
set_option maxHeartbeats 2000000
set_option autoImplicit false
namespace DL
open PySem PySem.Spec L2
open PyProof.Rows hiding St

section
variable {X : Cx} {WE : EW} {K : PySem.W.Frag}
theorem PI.or {tg e : Expr} {w1 w2 : TI} (a : PI X tg e w1) (b : PI X tg e w2) : PI X tg e (fun s H R => w1 s H R ∨ w2 s H R) := ⟨fun p s σ H R I h => by
  rcases h with h | h
  · exact a.run p s σ H R I h
  · exact b.run p s σ H R I h⟩
theorem itr_str {x : Str} : ItR K (signsP x) (Its x) (fun _ _ _ => True) where
  keep := fun _ _ _ _ _ _ _ _ => trivial
  go := fun r h H i _ l => by show i < x.cps.size; simpa [signsP] using l
  stop := fun r h H i _ l => by show x.cps.size ≤ i; simpa [signsP] using l
  yld := fun r S h s H i d z H' _ R q y => by
    obtain ⟨rfl, c, e, rfl⟩ := y
    unfold signsP at q
    rw [List.getElem?_map, Array.getElem?_toList, e] at q
    cases q
    exact ⟨Grow.refl, .str _⟩
theorem itr_sc {a : Addr} {ns : List Int} : ItR K (ns.map .int) (Itl K a) (fun r h H => ScR K (Lv r h) H a ns) where
  keep := fun r h H r' h' H' q E => q.mono E.keep
  go := fun r h H i q l => ⟨ns.map V.int, (ns.map V.int)[i]'(by simpa using l), q.sql, List.getElem?_eq_getElem _⟩
  stop := fun r h H i q l => ⟨ns.map V.int, q.sql, by simpa using l⟩
  yld := fun r S h s H i d x H' v R q y => by
    obtain ⟨rfl, y2⟩ := y
    have := y2 _ v.sql
    rw [List.getElem?_map] at this q
    cases e : ns[i]? with
    | none => rw [e] at q; cases q
    | some n =>
      rw [e] at this q
      cases q; cases this
      exact ⟨Grow.refl, .int _⟩
/-- a list, a tuple, a text, the script -/
def iAny (m : DS → M D) : DS → M (List PyData) := fun S => bd (m S) fun d => match d with
  | .t (.list ds) => ret ds
  | .t (.tuple ds) => ret ds
  | .t (.str x) => ret (signsP x)
  | .s ns => ret (ns.map .int)
  | _ => fail
theorem di_any {tg l : Expr} {m : DS → M D} (hl : DE X WE l m) : DI X WE tg l (iAny m) :=
  PI.imp (PI.or (pi_list hl) (PI.or (pi_tup hl) (pi_str hl))) fun s H Q ⟨r, S, h, R, p⟩ => by
    have p1 := p.bd
    -- the kind of what is walked is known ahead
    cases e : m S h with
    | none => rw [e] at p1; exact False.elim p1
    | some y =>
      cases y with
      | err c q h' =>
        exact .inl ⟨r, S, h, R, by rw [e] at p1 ⊢; exact p1⟩
      | ok d h' =>
        rw [e] at p1
        cases d with
        | t d =>
          cases d with
          | list ds =>
            refine .inl ⟨r, S, h, R, ?_⟩
            rw [e]
            intro r1 H1 R1 E1 v dv
            cases dv with
            | lst e n t => exact ⟨_, rfl, ⟨_, SqL.of e⟩, (p1 r1 H1 R1 E1) r1 H1 R1 .refl _ _ H1 Grow.refl ⟨e, n, t⟩ itr_list⟩
          | tuple ds =>
            refine .inr (.inl ⟨r, S, h, R, ?_⟩)
            rw [e]
            intro r1 H1 R1 E1 v dv
            cases dv with
            | tup e n t => exact ⟨_, rfl, ⟨_, SqT.of e⟩, (p1 r1 H1 R1 E1) r1 H1 R1 .refl _ _ H1 Grow.refl ⟨e, n, t⟩ itr_tup⟩
          | str x =>
            refine .inr (.inr ⟨r, S, h, R, ?_⟩)
            rw [e]
            intro r1 H1 R1 E1 v dv
            cases dv
            exact ⟨_, rfl, (p1 r1 H1 R1 E1) r1 H1 R1 .refl _ _ H1 Grow.refl trivial itr_str⟩
          | none => exact .inl ⟨r, S, h, R, by rw [e]; exact fun r1 H1 R1 E1 => (p1 r1 H1 R1 E1).elim⟩
          | bool b => exact .inl ⟨r, S, h, R, by rw [e]; exact fun r1 H1 R1 E1 => (p1 r1 H1 R1 E1).elim⟩
          | int i => exact .inl ⟨r, S, h, R, by rw [e]; exact fun r1 H1 R1 E1 => (p1 r1 H1 R1 E1).elim⟩
          | dict kvs => exact .inl ⟨r, S, h, R, by rw [e]; exact fun r1 H1 R1 E1 => (p1 r1 H1 R1 E1).elim⟩
        | c n => exact .inl ⟨r, S, h, R, by rw [e]; exact fun r1 H1 R1 E1 => (p1 r1 H1 R1 E1).elim⟩
        | k u => exact .inl ⟨r, S, h, R, by rw [e]; exact fun r1 H1 R1 E1 => (p1 r1 H1 R1 E1).elim⟩
        | s ns =>
          refine .inl ⟨r, S, h, R, ?_⟩
          rw [e]
          intro r1 H1 R1 E1 v dv
          obtain ⟨a, rfl, q⟩ := dv
          exact ⟨a, rfl, ⟨_, q.sql⟩, (p1 r1 H1 R1 E1) r1 H1 R1 .refl _ _ H1 Grow.refl q itr_sc⟩
/-- enumerate(list) -/
def enumD (ds : List PyData) : List PyData := (List.range ds.length).zipWith (fun (i : Nat) d => .tuple [.int (i : Int), d]) ds
theorem itr_enum {a : Addr} {xs : List V} {ds : List PyData} : ItR K (enumD ds) (Ite K a) (fun r h H => H a = some (.lst xs) ∧ ¬ Lv r h a ∧ TRs K (Lv r h) H xs ds) where
  keep := fun r h H r' h' H' ⟨e, n, t⟩ E => ⟨(E.keep _ _ e n).1, (E.keep _ _ e n).2, TRs.mono E.keep _ _ t⟩
  go := fun r h H i ⟨e, n, t⟩ l => by
    have l2 : i < ds.length := by simpa [enumD] using l
    exact ⟨xs, xs[i]'(by rw [t.length]; exact l2), SqL.of e, List.getElem?_eq_getElem _⟩
  stop := fun r h H i ⟨e, n, t⟩ l => ⟨xs, SqL.of e, by rw [t.length]; simpa [enumD] using l⟩
  yld := fun r S h s H i d x H' ⟨e, n, t⟩ R q y => by
    obtain ⟨T, z, rfl, nT, rfl, y2⟩ := y
    have hx := y2 xs (SqL.of e)
    obtain ⟨d0, e0, t0⟩ := t.getV hx
    have hi : i < ds.length := (List.getElem?_eq_some_iff.mp e0).1
    unfold enumD at q
    rw [List.getElem?_zipWith, List.getElem?_range hi, e0] at q
    cases q
    have g : Grow H (upd H T (.tup [.int (i : Nat), z])) := Grow.upd nT
    exact ⟨g, .tup upd_same (R.fresh nT) (.cons (.int _) (.cons (TR.mono (fun a o e n => ⟨g a o e, n⟩) _ _ t0) .nil))⟩
def iEnu (m : DS → M D) : DS → M (List PyData) := fun S => bd (m S) fun d => match d with
  | .t (.list ds) => ret (enumD ds)
  | _ => fail
theorem di_enum {e : Expr} {m : DS → M D} {p pos tpos : Pos} {elts : List Expr} {kk : Nat} (hg : Gl X "enumerate") (hm : X.mg "enumerate" = none) (ha : DE X WE e m) (n1 : starEach [e] X.env = (false, eval e X.env) :: starEach [] X.env := by rfl) (hs : starEach [e] X.env = [(false, eval e X.env)] := by rfl) : DI X WE (.Tuple elts kk tpos) (.Call (.Name "enumerate" p) [e] [] pos) (iEnu m) :=
  PI.imp (pi_enum hg hm (pa_cons ha pa_nil n1) hs) fun s H Q ⟨r, S, h, R, p⟩ => ⟨r, S, h, R, p.bd.mono fun d r1 h1 H1 R1 E1 q v dv => by
    cases d with
    | t d =>
      cases d with
      | list ds =>
        cases dv with
        | lst e n t => exact ⟨_, _, rfl, SqL.of e, q r1 H1 R1 .refl _ _ H1 Grow.refl ⟨e, n, t⟩ itr_enum⟩
      | _ => exact False.elim q
    | _ => exact False.elim q⟩
end
end DL
set_option Elab.async false
set_option linter.all false
set_option maxRecDepth 100000
set_option maxHeartbeats 2000000
set_option autoImplicit false
namespace DL
open PySem PySem.Spec L2
open PyProof.Rows hiding St

section
variable {X : Cx} {WE : EW} {K : PySem.W.Frag}
/-! zip of two lists, of two tuples -/
def zipD (ds es : List PyData) : List PyData := List.zipWith (fun d e => .tuple [d, e]) ds es
theorem itr_zip {a b : Addr} {xs ys : List V} {ds es : List PyData} : ItR K (zipD ds es) (Itz K a b) (fun r h H => (H a = some (.lst xs) ∧ ¬ Lv r h a ∧ TRs K (Lv r h) H xs ds) ∧ H b = some (.lst ys) ∧ ¬ Lv r h b ∧ TRs K (Lv r h) H ys es) where
  keep := fun r h H r' h' H' ⟨⟨e, n, t⟩, e2, n2, t2⟩ E => ⟨⟨(E.keep _ _ e n).1, (E.keep _ _ e n).2, TRs.mono E.keep _ _ t⟩, (E.keep _ _ e2 n2).1, (E.keep _ _ e2 n2).2, TRs.mono E.keep _ _ t2⟩
  go := fun r h H i ⟨⟨e, n, t⟩, e2, n2, t2⟩ l => by
    have l2 : i < min ds.length es.length := by simpa [zipD] using l
    have h1 := t.length
    have h2 := t2.length
    exact ⟨xs, ys, xs[i]'(by omega), ys[i]'(by omega), SqL.of e, SqL.of e2, List.getElem?_eq_getElem _, List.getElem?_eq_getElem _⟩
  stop := fun r h H i ⟨⟨e, n, t⟩, e2, n2, t2⟩ l => by
    have l2 : min ds.length es.length ≤ i := by simpa [zipD] using l
    have h1 := t.length
    have h2 := t2.length
    exact ⟨xs, ys, SqL.of e, SqL.of e2, by omega⟩
  yld := fun r S h s H i d x H' ⟨⟨e, n, t⟩, e2, n2, t2⟩ R q y => by
    obtain ⟨T, z, u, rfl, nT, rfl, y1, y2⟩ := y
    obtain ⟨d0, f0, t0⟩ := t.getV (y1 xs (SqL.of e))
    obtain ⟨d1, f1, t1⟩ := t2.getV (y2 ys (SqL.of e2))
    unfold zipD at q
    rw [List.getElem?_zipWith, f0, f1] at q
    cases q
    have g : Grow H (upd H T (.tup [z, u])) := Grow.upd nT
    have m : ∀ a o, H a = some o → ¬ Lv r h a → upd H T (.tup [z, u]) a = some o ∧ ¬ Lv r h a := fun a o e n => ⟨g a o e, n⟩
    exact ⟨g, .tup upd_same (R.fresh nT) (.cons (TR.mono m _ _ t0) (.cons (TR.mono m _ _ t1) .nil))⟩
theorem itr_zipT {a b : Addr} {xs ys : List V} {ds es : List PyData} : ItR K (zipD ds es) (RZ.ItzT K a b) (fun r h H => (H a = some (.tup xs) ∧ ¬ Lv r h a ∧ TRs K (Lv r h) H xs ds) ∧ H b = some (.tup ys) ∧ ¬ Lv r h b ∧ TRs K (Lv r h) H ys es) where
  keep := fun r h H r' h' H' ⟨⟨e, n, t⟩, e2, n2, t2⟩ E => ⟨⟨(E.keep _ _ e n).1, (E.keep _ _ e n).2, TRs.mono E.keep _ _ t⟩, (E.keep _ _ e2 n2).1, (E.keep _ _ e2 n2).2, TRs.mono E.keep _ _ t2⟩
  go := fun r h H i ⟨⟨e, n, t⟩, e2, n2, t2⟩ l => by
    have l2 : i < min ds.length es.length := by simpa [zipD] using l
    have h1 := t.length
    have h2 := t2.length
    exact ⟨xs, ys, xs[i]'(by omega), ys[i]'(by omega), SqT.of e, SqT.of e2, List.getElem?_eq_getElem _, List.getElem?_eq_getElem _⟩
  stop := fun r h H i ⟨⟨e, n, t⟩, e2, n2, t2⟩ l => by
    have l2 : min ds.length es.length ≤ i := by simpa [zipD] using l
    have h1 := t.length
    have h2 := t2.length
    exact ⟨xs, ys, SqT.of e, SqT.of e2, by omega⟩
  yld := fun r S h s H i d x H' ⟨⟨e, n, t⟩, e2, n2, t2⟩ R q y => by
    obtain ⟨T, z, u, rfl, nT, rfl, y1, y2⟩ := y
    obtain ⟨d0, f0, t0⟩ := t.getV (y1 xs (SqT.of e))
    obtain ⟨d1, f1, t1⟩ := t2.getV (y2 ys (SqT.of e2))
    unfold zipD at q
    rw [List.getElem?_zipWith, f0, f1] at q
    cases q
    have g : Grow H (upd H T (.tup [z, u])) := Grow.upd nT
    have m : ∀ a o, H a = some o → ¬ Lv r h a → upd H T (.tup [z, u]) a = some o ∧ ¬ Lv r h a := fun a o e n => ⟨g a o e, n⟩
    exact ⟨g, .tup upd_same (R.fresh nT) (.cons (TR.mono m _ _ t0) (.cons (TR.mono m _ _ t1) .nil))⟩
def zipM : List D → M (List PyData)
  | [.t (.list ds), .t (.list es)] => ret (zipD ds es)
  | [.t (.tuple ds), .t (.tuple es)] => ret (zipD ds es)
  | _ => fail
def iZip (ms : DS → M (List D)) : DS → M (List PyData) := fun S => bd (ms S) zipM
theorem zipM_inv {ds : List D} {h h' : Hd} {r : Res (List PyData)} (e : zipM ds h = some r) : (∃ a b, ds = [.t (.list a), .t (.list b)] ∧ r = .ok (zipD a b) h) ∨ (∃ a b, ds = [.t (.tuple a), .t (.tuple b)] ∧ r = .ok (zipD a b) h) := by
  unfold zipM at e
  split at e
  · cases e; exact .inl ⟨_, _, rfl, rfl⟩
  · cases e; exact .inr ⟨_, _, rfl, rfl⟩
  · cases e
theorem di_zip {e e2 : Expr} {ms : DS → M (List D)} {p pos tpos : Pos} {elts : List Expr} {kk : Nat} (hg : Gl X "zip") (hm : X.mg "zip" = none) (ha : DA X WE [e, e2] ms) (hs : starEach [e, e2] X.env = (false, eval e X.env) :: starEach [e2] X.env := by rfl) (hpl : (backTo pos (starEach [e2] X.env)).any (·.1) = false := by rfl) : DI X WE (.Tuple elts kk tpos) (.Call (.Name "zip" p) [e, e2] [] pos) (iZip ms) :=
  PI.imp (RZ.pi_zipA hg hm ha hs hpl) fun s H Q ⟨r, S, h, R, p⟩ => ⟨r, S, h, R, p.bd.mono fun ds r1 h1 H1 R1 E1 q vs dvs => by
    cases e0 : zipM ds h1 with
    | none => rw [e0] at q; exact False.elim q
    | some y =>
      rcases zipM_inv (h' := h1) e0 with ⟨a, b, rfl, rfl⟩ | ⟨a, b, rfl, rfl⟩
      · cases dvs with
        | cons d1 dvs =>
          cases dvs with
          | cons d2 dvs =>
            cases dvs
            cases d1 with
            | lst e n t =>
              cases d2 with
              | lst e2 n2 t2 =>
                rw [e0] at q
                exact ⟨_, _, _, _, rfl, .inl ⟨SqL.of e, SqL.of e2, q r1 H1 R1 .refl _ _ H1 Grow.refl ⟨⟨e, n, t⟩, e2, n2, t2⟩ itr_zip⟩⟩
      · cases dvs with
        | cons d1 dvs =>
          cases dvs with
          | cons d2 dvs =>
            cases dvs
            cases d1 with
            | tup e n t =>
              cases d2 with
              | tup e2 n2 t2 =>
                rw [e0] at q
                exact ⟨_, _, _, _, rfl, .inr ⟨SqT.of e, SqT.of e2, q r1 H1 R1 .refl _ _ H1 Grow.refl ⟨⟨e, n, t⟩, e2, n2, t2⟩ itr_zipT⟩⟩⟩
/-! least and greatest of alike data -/
def alikeB (xs : List PyData) : Bool := xs.all (fun x => xs.all (fun y => PySem.W.alike x y)) && xs.all (fun x => match x with | .none => false | _ => true)
theorem alikeB_of {xs : List PyData} (h : alikeB xs = true) : PySem.W.AlikeAll xs := by
  unfold alikeB at h
  rw [Bool.and_eq_true, List.all_eq_true, List.all_eq_true] at h
  refine ⟨fun x hx y hy => ?_, fun x hx e => ?_⟩
  · have := h.1 x hx
    rw [List.all_eq_true] at this
    exact this y hy
  · subst e
    exact absurd (h.2 _ hx) (by simp)
theorem canLay_mem : ∀ {xs : List PyData} {x : PyData}, PyData.canLayAll0 xs = true → x ∈ xs → x.canLay0 = true
  | [], _, _, m => by simp at m
  | y :: ys, x, h, m => by
    have h' : y.canLay0 = true ∧ PyData.canLayAll0 ys = true := by simpa [PyData.canLayAll0] using h
    rcases List.mem_cons.mp m with e | e
    · exact e ▸ h'.1
    · exact canLay_mem h'.2 e
def rBestD (K : PySem.W.Frag) (f : PyData → List PyData → PyData) : List V → Hp → VK → Prop := fun vs H Q => ∃ (a : Addr) (ys : List V) (x : PyData) (xs : List PyData), vs = [.ref a] ∧ SqL K H a ys ∧ DpAll K H ys (x :: xs) ∧ SeqAt.shaped (.list (x :: xs)) = true ∧ PySem.W.AlikeAll (x :: xs) ∧ ∀ (i : Nat) (v : V), ys[i]? = some v → (x :: xs)[i]? = some (f x xs) → Q v H
theorem best_fin {pins : List (Addr × Obj)} {s : Shared} {σ : St} {H : Hp} {Q : VK} {ys : List V} {its : List Value} {x : PyData} {xs : List PyData} {z : PyData} (I : Inv X pins σ H s) (rv : Vals ys its) (dp : DpAll X.K H ys (x :: xs)) (sh : SeqAt.shaped (.list (x :: xs)) = true)
    (q : ∀ (i : Nat) (v : V), ys[i]? = some v → (x :: xs)[i]? = some z → Q v H) {i : Nat} {u : Value} {h' : Heap} {tk : Nat} {bs : List Addr} (hu : its.toArray[i]? = some u) (hr : Reads h' u z bs) (hk : ∀ b o, s.heap.get? b = some o → h'.get? b = some o) : EP X pins σ Q u { s with heap := h', toks := tk } := by
  have hu' : its[i]? = some u := by simpa using hu
  obtain ⟨as, rs⟩ := Dp.readsAll I _ _ _ dp rv
  obtain ⟨cs, r1, l1, m1, _⟩ := PySem.W.readsAll_at rs i u hu'
  have cl : PyData.canLayAll0 (x :: xs) = true := by
    have := SeqAt.canLay_of_shaped sh
    simpa [PyData.canLay0] using this
  have e1 : (x :: xs).getD i .none = z := SeqAt.Reads.unique _ _ _ _ _ (canLay_mem cl m1) (PySem.W.reads_keeps hk r1) hr
  have e2 : (x :: xs)[i]? = some z := by
    rw [← e1, List.getElem?_eq_getElem l1]
    simp [List.getD, List.getElem?_eq_getElem l1]
  have hl : i < ys.length := by
    have h1 := rv.length
    have h2 := (List.getElem?_eq_some_iff.mp hu').1
    omega
  obtain ⟨u', hu2, rr⟩ := rv.get (List.getElem?_eq_getElem hl)
  rw [hu'] at hu2
  cases hu2
  exact ⟨_, H, I.kept hk, rr, q i _ (List.getElem?_eq_getElem hl) e2⟩
theorem depthAll_of {xs : List PyData} (sh : SeqAt.shaped (.list xs) = true) : PyData.depthAll xs ≤ 63 := by
  have := SeqAt.depth_of_shaped sh
  have e : (PyData.list xs).depth = PyData.depthAll xs + 1 := by simp [PyData.depth]
  omega
theorem cr_minD (hc : X.calm = true) (hu : X.A.units + 64 < cLine) : CallR X (.builtin "min") (rBestD X.K PySem.W.minD) := by
  intro pins s σ H vs us Q I r h
  obtain ⟨a, ys, x, xs, rfl, hs, dp, sh, al, q⟩ := h
  obtain ⟨its, rv, hl, _⟩ := I.list hs
  rw [Vals.ref1 r]
  obtain ⟨as, rs⟩ := Dp.readsAll I _ _ _ dp rv
  have := depthAll_of sh
  exact PySem.W.min_list_data (I.ok.hd hc) hl.isList (by simpa using rs) al (by omega) fun i u h' tk bs hu hr hk => best_fin I rv dp sh q hu hr hk
theorem cr_maxD (hc : X.calm = true) (hu : X.A.units + 64 < cLine) : CallR X (.builtin "max") (rBestD X.K PySem.W.maxD) := by
  intro pins s σ H vs us Q I r h
  obtain ⟨a, ys, x, xs, rfl, hs, dp, sh, al, q⟩ := h
  obtain ⟨its, rv, hl, _⟩ := I.list hs
  rw [Vals.ref1 r]
  obtain ⟨as, rs⟩ := Dp.readsAll I _ _ _ dp rv
  have := depthAll_of sh
  exact PySem.W.max_list_data (I.ok.hd hc) hl.isList (by simpa using rs) al (by omega) fun i u h' tk bs hu hr hk => best_fin I rv dp sh q hu hr hk
def bestP (f : PyData → List PyData → PyData) : List PyData → Option PyData
  | [.list (x :: xs)] => if SeqAt.shaped (.list (x :: xs)) && alikeB (x :: xs) then some (f x xs) else none
  | _ => none
theorem pw_best {f : PyData → List PyData → PyData} : PureW K (rBestD K f) (bestP f) := by
  intro L H vs xs z Q hL w0 e k
  unfold bestP at e
  split at e
  · rename_i x ds
    obtain ⟨v, rfl, w⟩ := w0.one
    obtain ⟨a, ys, rfl, e1, t1⟩ := w
    split at e
    · rename_i hh
      rw [Bool.and_eq_true] at hh
      cases e
      exact ⟨a, ys, x, ds, rfl, e1, t1.dp, hh.1, alikeB_of hh.2, fun i v hv hd => by
        obtain ⟨d0, f0, t0⟩ := t1.getV hv
        rw [hd] at f0
        cases f0
        exact k v H Grow.refl t0⟩
    · cases e
  · cases e
theorem PureW.or {r r' : List V → Hp → VK → Prop} {g g' : List PyData → Option PyData} (a : PureW K r g) (b : PureW K r' g') : PureW K (fun vs H Q => r vs H Q ∨ r' vs H Q) (fun xs => (g xs).or (g' xs)) := by
  intro L H vs xs z Q hL w0 e0 k
  have e : (g xs).or (g' xs) = some z := e0
  cases q : g xs with
  | some y => rw [q] at e; cases e; exact .inl (a L H vs xs _ Q hL w0 q k)
  | none => rw [q] at e; exact .inr (b L H vs xs _ Q hL w0 e k)
def minQ (xs : List PyData) : Option PyData := (minP xs).or (bestP PySem.W.minD xs)
def maxQ (xs : List PyData) : Option PyData := (maxP xs).or (bestP PySem.W.maxD xs)
theorem call_minQ (hc : X.calm = true) (hu : X.A.units + 64 < cLine) : CallR X (.builtin "min") (fun xs H Q => ((∃ i j, xs = [.int i, .int j] ∧ Q (.int (if j < i then j else i)) H) ∨ rMin X.K xs H Q) ∨ rBestD X.K PySem.W.minD xs H Q) := (call_minA hc).or (cr_minD hc hu)
theorem call_maxQ (hc : X.calm = true) (hu : X.A.units + 64 < cLine) : CallR X (.builtin "max") (fun xs H Q => ((∃ i j, xs = [.int i, .int j] ∧ Q (.int (if j > i then j else i)) H) ∨ rMax X.K xs H Q) ∨ rBestD X.K PySem.W.maxD xs H Q) := (call_maxA hc).or (cr_maxD hc hu)
theorem pw_minQ : PureW K (fun xs H Q => ((∃ i j, xs = [.int i, .int j] ∧ Q (.int (if j < i then j else i)) H) ∨ rMin K xs H Q) ∨ rBestD K PySem.W.minD xs H Q) minQ := pw_min.or pw_best
theorem pw_maxQ : PureW K (fun xs H Q => ((∃ i j, xs = [.int i, .int j] ∧ Q (.int (if j > i then j else i)) H) ∨ rMax K xs H Q) ∨ rBestD K PySem.W.maxD xs H Q) maxQ := pw_max.or pw_best
end
end DL
set_option Elab.async false
set_option linter.all false
set_option maxRecDepth 100000
set_option maxHeartbeats 2000000
set_option autoImplicit false
namespace DL
open PySem PySem.Spec L2
open PyProof.Rows hiding St

/-! sorted of texts -/
def leS (a b : Str) : Prop := ltCps b.cps.toList a.cps.toList = false
def insS (x : Str) : List Str → List Str
  | [] => [x]
  | y :: ys => if ltCps y.cps.toList x.cps.toList then y :: insS x ys else x :: y :: ys
def sortS (l : List Str) : List Str := l.foldr insS []
theorem insS_perm (x : Str) : ∀ l : List Str, (insS x l).Perm (x :: l)
  | [] => .refl _
  | y :: ys => by
    unfold insS
    split
    · exact ((insS_perm x ys).cons y).trans (.swap x y ys)
    · exact .refl _
theorem sortS_perm : ∀ l : List Str, (sortS l).Perm l
  | [] => .refl _
  | x :: l => (insS_perm x (sortS l)).trans ((sortS_perm l).cons x)
theorem lt_iff {a b : Str} : ltCps a.cps.toList b.cps.toList = true ↔ a.cps.toList < b.cps.toList := by
  rw [PyProof.Rows.ltCps_eq]; simp
theorem leS_iff {a b : Str} : leS a b ↔ a.cps.toList ≤ b.cps.toList := by
  unfold leS
  rw [PyProof.Rows.ltCps_eq, decide_eq_false_iff_not]
  exact Iff.rfl
theorem leS_trans {a b c : Str} (h : leS a b) (g : leS b c) : leS a c := by
  rw [leS_iff] at *
  exact List.le_trans h g
theorem leS_total {a b : Str} (h : ¬ leS a b) : leS b a := by
  rw [leS_iff] at *
  rcases List.le_total a.cps.toList b.cps.toList with q | q
  · exact absurd q h
  · exact q
theorem str_ext {a b : Str} (h : a.cps.toList = b.cps.toList) : a = b := by
  cases a; cases b
  congr
  exact Array.toList_inj.mp h
theorem leS_anti {a b : Str} (h : leS a b) (g : leS b a) : a = b := by
  rw [leS_iff] at *
  exact str_ext (List.le_antisymm h g)
theorem insS_sorted (x : Str) : ∀ l : List Str, l.Pairwise leS → (insS x l).Pairwise leS
  | [], _ => by simp [insS]
  | y :: ys, h => by
    rw [List.pairwise_cons] at h
    unfold insS
    split
    · rename_i q
      rw [List.pairwise_cons]
      refine ⟨fun z hz => ?_, insS_sorted x ys h.2⟩
      rcases List.mem_cons.mp ((insS_perm x ys).mem_iff.mp hz) with e | e
      · subst e
        apply leS_total
        intro g
        unfold leS at g
        rw [g] at q
        exact absurd q (by simp)
      · exact h.1 z e
    · rename_i q
      have q' : leS x y := by unfold leS; simpa using q
      rw [List.pairwise_cons, List.pairwise_cons]
      refine ⟨fun z hz => ?_, h⟩
      rcases List.mem_cons.mp hz with e | e
      · exact e ▸ q'
      · exact leS_trans q' (h.1 z e)
theorem sortS_sorted : ∀ l : List Str, (sortS l).Pairwise leS
  | [] => .nil
  | x :: l => insS_sorted x _ (sortS_sorted l)
theorem pairwise_of_sortedS : ∀ (l : List Str), sortedS l = true → l.Pairwise leS
  | [], _ => .nil
  | x :: r, h => by
    have aux : ∀ (r : List Str) (p : Str), risingS p r = true → (∀ y ∈ r, leS p y) ∧ r.Pairwise leS := by
      intro r
      induction r with
      | nil => intro p _; exact ⟨fun y hy => by simp at hy, .nil⟩
      | cons y ys ih =>
        intro p hp
        unfold risingS at hp
        rw [Bool.and_eq_true] at hp
        have h1 : leS p y := by unfold leS; simpa using hp.1
        obtain ⟨h2, h3⟩ := ih y hp.2
        refine ⟨fun z hz => ?_, List.pairwise_cons.mpr ⟨h2, h3⟩⟩
        rcases List.mem_cons.mp hz with e | e
        · exact e ▸ h1
        · exact leS_trans h1 (h2 z e)
    exact List.pairwise_cons.mpr (aux r x h)
theorem sortS_one {ys l : List Str} (p : ys.Perm l) (h : sortedS ys = true) : ys = sortS l :=
  List.Perm.eq_of_pairwise (fun _ _ _ _ a b => leS_anti a b) (pairwise_of_sortedS _ h) (sortS_sorted l) (p.trans (sortS_perm l).symm)
def sortSP : List PyData → Option (List PyData)
  | [.list ds] => (strsP ds).bind fun ss => if ss.length < 64 then some ((sortS ss).map .str) else none
  | _ => none
section
variable {X : Cx} {WE : EW} {K : PySem.W.Frag}
theorem strsP_of' : ∀ {ds : List PyData} {ss : List Str}, strsP ds = some ss → ds = ss.map PyData.str
  | [], ss, h => by simp [strsP] at h; subst h; rfl
  | .str x :: ds, ss, h => by
    unfold strsP at h
    cases q : strsP ds with
    | none => rw [q] at h; cases h
    | some r =>
      rw [q] at h
      cases h
      rw [strsP_of' q]; rfl
  | .none :: _, _, h => by simp [strsP] at h
  | .bool _ :: _, _, h => by simp [strsP] at h
  | .int _ :: _, _, h => by simp [strsP] at h
  | .list _ :: _, _, h => by simp [strsP] at h
  | .tuple _ :: _, _, h => by simp [strsP] at h
  | .dict _ :: _, _, h => by simp [strsP] at h
theorem pn_sortS : PureN K (rSortedS K) sortSP := by
  intro L H vs xs ds Q w0 e k
  unfold sortSP at e
  split at e
  · rename_i es
    obtain ⟨v, rfl, w⟩ := w0.one
    obtain ⟨a, ys, rfl, e1, t1⟩ := w
    cases q : strsP es with
    | none => rw [q] at e; cases e
    | some ss =>
      rw [q] at e
      simp only [Option.bind] at e
      split at e
      · rename_i hl
        cases e
        rw [strsP_of' q] at t1
        have := trs_strs_inv t1
        subst this
        refine ⟨a, ss, rfl, e1, hl, fun ys p hp hs np => ?_⟩
        rw [sortS_one hp hs]
        exact k p _ np (trs_strs _)
      · cases e
  · cases e
theorem PureN.or {r r' : List V → Hp → VK → Prop} {g g' : List PyData → Option (List PyData)} (a : PureN K r g) (b : PureN K r' g') : PureN K (fun vs H Q => r vs H Q ∨ r' vs H Q) (fun xs => (g xs).or (g' xs)) := by
  intro L H vs xs ds Q w0 e0 k
  have e : (g xs).or (g' xs) = some ds := e0
  cases q : g xs with
  | some y => rw [q] at e; cases e; exact .inl (a L H vs xs _ Q w0 q k)
  | none => rw [q] at e; exact .inr (b L H vs xs _ Q w0 e k)
def sortQ (xs : List PyData) : Option (List PyData) := (sortP xs).or (sortSP xs)
theorem call_sortQ : CallR X (.builtin "sorted") (fun vs H Q => rSortedI X.K vs H Q ∨ rSortedS X.K vs H Q) := cr_sortedI.or cr_sortedS
theorem pn_sortQ : PureN K (fun vs H Q => rSortedI K vs H Q ∨ rSortedS K vs H Q) sortQ := pn_sort.or pn_sortS
/-! sorted(dict(pairs)), keys texts -/
def keysP : List PyData → Option (List Str)
  | [] => some []
  | .tuple [.str x, _] :: ds => (keysP ds).map (x :: ·)
  | _ => none
def uniS (acc : List Str) (xs : List Str) : List Str := xs.foldl (fun acc x => if x ∈ acc then acc else acc ++ [x]) acc
theorem keys_put {kvs : List (L2.Key × V)} {acc : List Str} {x : Str} {v : V} (h : kvs.map (·.1) = acc.map Sum.inr) : (putK kvs (Sum.inr x) v).map (·.1) = (if x ∈ acc then acc else acc ++ [x]).map Sum.inr := by
  have e : (kvs.any fun kv => decide (kv.1 = Sum.inr x)) = decide (x ∈ acc) := by
    rw [Bool.eq_iff_iff, List.any_eq_true, decide_eq_true_eq]
    constructor
    · rintro ⟨kv, m, q⟩
      have m2 : kv.1 ∈ kvs.map (·.1) := List.mem_map_of_mem m
      rw [h, of_decide_eq_true q] at m2
      obtain ⟨y, my, ey⟩ := List.mem_map.mp m2
      cases ey
      exact my
    · intro m
      have m2 : (Sum.inr x : L2.Key) ∈ kvs.map (·.1) := by rw [h]; exact List.mem_map_of_mem m
      obtain ⟨kv, mk, ek⟩ := List.mem_map.mp m2
      exact ⟨kv, mk, by simp [ek]⟩
  unfold putK
  rw [e]
  by_cases q : x ∈ acc
  · rw [if_pos (by simpa using q), if_pos q, ← h, List.map_map]
    apply List.map_congr_left
    intro kv _
    simp only [Function.comp]
    split <;> rfl
  · rw [if_neg (by simpa using q), if_neg q]
    simp [h]
theorem keys_merge : ∀ (more : List (L2.Key × V)) (xs : List Str) (kvs : List (L2.Key × V)) (acc : List Str), more.map (·.1) = xs.map Sum.inr → kvs.map (·.1) = acc.map Sum.inr → (mergeK kvs more).map (·.1) = (uniS acc xs).map Sum.inr
  | [], [], kvs, acc, _, h => h
  | [], x :: xs, _, _, e, _ => by simp at e
  | kv :: more, [], _, _, e, _ => by simp at e
  | kv :: more, x :: xs, kvs, acc, e, h => by
    simp only [List.map_cons, List.cons.injEq] at e
    obtain ⟨k, v⟩ := kv
    have ek : k = Sum.inr x := e.1
    subst ek
    exact keys_merge more xs (putK kvs (Sum.inr x) v) _ e.2 (keys_put h)
theorem pairs_of {L : Addr → Prop} {H : Hp} : ∀ {ds : List PyData} {xs : List V} {ks : List Str}, TRs K L H xs ds → keysP ds = some ks → ∃ (ps : List Addr) (kvs : List (L2.Key × V)), xs = ps.map V.ref ∧ Paired (fun p kv => SqT K H p [kV kv.1, kv.2]) ps kvs ∧ kvs.map (·.1) = ks.map Sum.inr
  | [], _, ks, t, e => by
    cases t
    cases e
    exact ⟨[], [], rfl, .nil, rfl⟩
  | d :: ds, _, ks, t, e => by
    unfold keysP at e
    split at e
    · rename_i h
      cases h
    · rename_i x d2 ds' h
      cases h
      cases t with
      | cons t1 t2 =>
        cases q : keysP ds with
        | none => rw [q] at e; cases e
        | some ks' =>
          rw [q] at e
          cases e
          obtain ⟨ps, kvs, rfl, pr, ek⟩ := pairs_of t2 q
          cases t1 with
          | tup e1 n1 u1 =>
            cases u1 with
            | cons a1 b1 =>
              cases b1 with
              | cons a2 b2 =>
                cases b2
                cases a1
                exact ⟨_ :: ps, (Sum.inr x, _) :: kvs, rfl, .cons (SqT.of e1) pr, by simp [ek]⟩
    · cases e
def sdP : PyData → Option (List PyData)
  | .list ds => (keysP ds).bind fun ks => if (uniS [] ks).length < 64 then some ((sortS (uniS [] ks)).map .str) else none
  | _ => none
/-- sorted(dict(pairs)) -/
def dSD (c : Bool) (m : DS → M D) : DS → M D := fun S => bd (m S) fun d => match d with
  | .t x => bd (opt (sdP x)) fun z => mk c z
  | _ => fail
theorem de_sd (c : Bool) {e : Expr} {m : DS → M D} {p p2 pos pos2 : Pos} (hc : X.calm = true) (g1 : Gl X "sorted") (m1 : X.mg "sorted" = none) (g2 : Gl X "dict") (m2 : X.mg "dict" = none) (v1 : bootBuiltins "sorted" = some (.builtin "sorted")) (v2 : bootBuiltins "dict" = some (.type "dict")) (he : DE X WE e m)
    (s1 : starEach [e] X.env = (false, eval e X.env) :: starEach [] X.env := by rfl) (s2 : starEach [Expr.Call (.Name "dict" p2) [e] [] pos2] X.env = (false, eval (Expr.Call (.Name "dict" p2) [e] [] pos2) X.env) :: starEach [] X.env := by rfl) :
    DE X WE (.Call (.Name "sorted" p) [.Call (.Name "dict" p2) [e] [] pos2] [] pos) (dSD c m) :=
  PE.imp (pe_callB (call_sortedD hc) g1 m1 v1 (pa_cons (pe_callTy (call_dictP hc) g2 m2 v2 (pa_cons he pa_nil s1) (he := s1) (hpl := rfl)) pa_nil s2) (he := s2) (hpl := rfl)) fun s H Q ⟨r, S, h, R, q⟩ => ⟨r, S, h, R, q.bd.mono fun d r1 h1 H1 R1 E1 q v dv => by
    cases d with
    | t d =>
      obtain ⟨zs, z1, z2⟩ := q.bd.opt R1
      cases d with
      | list ds =>
        cases dv with
        | lst e n t =>
          unfold sdP at z1
          cases k : keysP ds with
          | none => simp only [k] at z1; cases z1
          | some ks =>
            simp only [k, Option.bind] at z1
            split at z1
            · rename_i h64
              cases z1
              obtain ⟨ps, kvs, rfl, pr, ek⟩ := pairs_of t k
              refine ⟨_, ps, kvs, rfl, SqL.of e, pr, fun p2 np => ?_⟩
              refine ⟨p2, mergeK [] kvs, uniS [] ks, rfl, .inl upd_same, keys_merge kvs ks [] [] ek rfl, h64, fun ys p3 hp hs np3 => ?_⟩
              rw [sortS_one hp hs]
              have g : Grow _ (upd H1 p2 (.dK (mergeK [] kvs))) := Grow.upd np
              obtain ⟨d', r', h', R', E', d1, g1⟩ := mk_ok (R1.grow g) (trs_strs (sortS (uniS [] ks))) np3 (z2.at (.grow g))
              exact g1 _ d1
            · cases z1
      | _ => cases z1
    | _ => exact False.elim q⟩
/-! xs.index(x) of texts -/
def firstS (x : Str) : List Str → Option Nat
  | [] => none
  | y :: ys => if y = x then some 0 else (firstS x ys).map (· + 1)
theorem firstS_at {x : Str} : ∀ {ys : List Str} {j : Nat}, firstS x ys = some j → ys[j]? = some x ∧ ∀ m y, m < j → ys[m]? = some y → y ≠ x
  | [], _, h => by simp [firstS] at h
  | y :: ys, j, h => by
    unfold firstS at h
    split at h
    · rename_i e
      cases h
      exact ⟨by simp [e], fun m z hm => absurd hm (Nat.not_lt_zero _)⟩
    · rename_i e
      cases q : firstS x ys with
      | none => rw [q] at h; cases h
      | some i =>
        rw [q] at h
        cases h
        obtain ⟨a, b⟩ := firstS_at q
        refine ⟨by simpa using a, fun m z hm hz => ?_⟩
        cases m with
        | zero => simp at hz; exact hz ▸ e
        | succ m => exact b m z (Nat.lt_of_succ_lt_succ hm) (by simpa using hz)
def indexP : PyData → List PyData → Option PyData
  | .list ds, [.str x] => (strsP ds).bind fun ss => (firstS x ss).map fun j => .int (j : Nat)
  | _, _ => none
theorem pm_index : PureM K (rIndex K) indexP := by
  intro L H x vs a xs z Q hL wa w0 e k
  unfold indexP at e
  split at e
  · rename_i ds y
    obtain ⟨v, rfl, w⟩ := w0.one
    cases w
    obtain ⟨p, ys, rfl, e1, t1⟩ := wa
    cases q : strsP ds with
    | none => rw [q] at e; cases e
    | some ss =>
      rw [q] at e
      simp only [Option.bind] at e
      cases q2 : firstS y ss with
      | none => rw [q2] at e; cases e
      | some j =>
        rw [q2] at e
        cases e
        rw [strsP_of' q] at t1
        have := trs_strs_inv t1
        subst this
        obtain ⟨f1, f2⟩ := firstS_at q2
        refine ⟨p, ss.map V.str, V.str y, j, V.str y, rfl, rfl, e1, rfl, by simp [flatV], by rw [List.getElem?_map, f1]; rfl, by simp [eqV], fun m z' hm hz => ?_, k _ H Grow.refl (.int _)⟩
        rw [List.getElem?_map] at hz
        cases q3 : ss[m]? with
        | none => rw [q3] at hz; cases hz
        | some y' =>
          rw [q3] at hz
          cases hz
          have := f2 m y' hm q3
          simpa [eqV] using this
  · cases e
end
end DL
set_option Elab.async false
set_option linter.all false
set_option maxRecDepth 100000
set_option maxHeartbeats 2000000
set_option autoImplicit false
namespace DL
open PySem PySem.Spec L2 HT
open PyProof.Rows hiding St
/-! x[::-1] of a list, a tuple, a text -/
section
variable {prog : Program} {w : World} {A : Around} {E : Value → Shared → Prop} {s : Shared}
theorem sliceApplied_back {sl : Addr} {vs : Value} {n : Nat} {Q : Int × Int × Nat → Shared → Prop} (hs : s.heap.IsSliceOf sl .none .none vs) (ps : IsPart vs (some (-1)))
    (h : Q ((n : Int) - 1, -1, n) s) : wpAny (model prog w) A (Builtin.Slice.sliceApplied (.ref sl) (pure (n : Int))) Q E s := by
  obtain ⟨os, hos, hcs, hds⟩ := id hs
  unfold Builtin.Slice.sliceApplied Builtin.Slice.sliceFields
  refine wpAny_bind (wpAny_bind (wpAny_field hos hds (x := .none) rfl (wpAny_bind (wpAny_field hos hds (x := .none) rfl (wpAny_bind (wpAny_field hos hds (x := vs) rfl (wpAny_pure ?_)))))))
  refine wpAny_bind (slicePart_ ps ?_)
  show wpAny _ _ (if ((-1 : Int) == 0) = true then _ else _) _ _ s
  rw [if_neg (by decide)]
  refine wpAny_bind (slicePart_none (wpAny_bind (slicePart_none (wpAny_bind (wpAny_pure ?_)))))
  have e : Builtin.Slice.slicePlaces ((n : Int) - 1) (-1) (-1) = n := by
    unfold Builtin.Slice.slicePlaces
    rw [if_neg (by decide)]
    by_cases h : (n : Int) - 1 > -1
    · rw [if_pos h, show (-(-1) : Int) = 1 by decide, Int.ediv_one]
      omega
    · rw [if_neg h]
      omega
  show wpAny _ _ (pure ((n : Int) - 1, (-1 : Int), Builtin.Slice.slicePlaces ((n : Int) - 1) (-1) (-1))) _ _ s
  rw [e]
  exact wpAny_pure h
theorem pick_back (xs : Array Value) : ((List.range xs.size).filterMap fun (m : Nat) => xs[((xs.size : Int) - 1 + (m : Int) * (-1)).toNat]?).toArray = xs.toList.reverse.toArray := by
  have e : (fun (m : Nat) => xs[((xs.size : Int) - 1 + (m : Int) * (-1)).toNat]?) = fun m : Nat => xs[((xs.size : Int) - 1 - (m : Int)).toNat]? := by
    funext m
    congr 2
    omega
  have e2 : (List.range xs.size).filterMap (fun (m : Nat) => xs[((xs.size : Int) - 1 - (m : Int)).toNat]?) = ((List.range xs.size).map fun k => xs.size - 1 - k).filterMap (xs[·]?) := by
    rw [List.filterMap_map]
    congr 1
    funext m
    show xs[((xs.size : Int) - 1 - (m : Int)).toNat]? = xs[xs.size - 1 - m]?
    congr 1
    omega
  rw [e, e2, PySem.W.krv_range, List.filterMap_reverse, PySem.W.krv_all]
theorem getItem_tuple_back {t sl : Addr} {items : Array Value} {vs : Value} {Q : Value → Shared → Prop} (ht : IsTup s.heap t items) (hs : s.heap.IsSliceOf sl .none .none vs) (ps : IsPart vs (some (-1)))
    (h : Q (.ref s.heap.objs.size) { s with heap := s.heap.push { cls := .type "tuple", data := .seq items.toList.reverse.toArray } })
    (hsz : items.size ≤ sizeLine) : wpAny (model prog w) A (getItem (.ref t) (.ref sl)) Q E s := by
  have htake : sizeOk (.seq items.toList.reverse.toArray) := by
    show items.toList.reverse.toArray.size ≤ sizeLine
    simpa using hsz
  obtain ⟨os, hos, hcs, hds⟩ := id hs
  have hTs : s.TypeIs (.ref sl) "slice" := ⟨os, hos, hcs⟩
  unfold getItem
  try with_reducible refine wpAny_holding ?_
  first | refine wpAny_bind (wpAny_pure ?_) | skip
  refine wpAny_bind (wpAny_sequenceKey ht.typeIs (by decide) ?_)
  refine wpAny_bind (wpAny_callSpecial?_slot (name := Str.ofString "__getitem__") ht.typeIs PyProof.Rows.slot_tuple_getitem
    (wpAny_call_entry PyProof.Rows.slot_tuple_getitem ht.typeIs entry_tuple_getitem ?_ (args_tuple_getitem _ _)))
  show wpAny _ _ (Builtin.Tuple.tupleItemsOf (.ref t) >>= _) _ _ s
  refine wpAny_bind (tupleItemsOf_ ht ?_)
  refine wpAny_bind (wpAny_typeOf hTs ?_)
  rw [if_pos (by decide)]
  refine wpAny_bind (sliceApplied_back hs ps ?_)
  have hno : ¬ ((((items.size : Int) - 1) == 0 && (-1 : Int) == 1 && items.size == items.size) = true) := by
    simp
  show wpAny _ _ (if (((items.size : Int) - 1) == 0 && (-1 : Int) == 1 && items.size == items.size) = true then _ else _) _ _ s
  rw [if_neg hno, pick_back]
  first
    | exact wpAny_bind (m := Builtin.Tuple.tupleExact _) (wpAny_newObj_type (wpAny_pure ⟨_, rfl, wpAny_pure h⟩) htake)
    | exact wpAny_bind (m := Builtin.Tuple.tupleExact _) (wpAny_newObj_type (wpAny_bind (wpAny_pure (wpAny_pure ⟨_, rfl, wpAny_pure h⟩))) htake)
    | exact wpAny_bind (wpAny_bind (m := Builtin.Tuple.tupleExact _) (wpAny_newObj_type (wpAny_pure (wpAny_pure ⟨_, rfl, wpAny_pure h⟩)) htake))
    | exact wpAny_bind (wpAny_bind (m := Builtin.Tuple.tupleExact _) (wpAny_newObj_type (wpAny_pure ⟨_, rfl, wpAny_pure h⟩) htake))
end
theorem str_back (z : Str) : (Builtin.Str.strSliceIndices none none (-1) z.length).filterMap (z.cps[·]?) = z.cps.toList.reverse := by
  have e : Builtin.Str.strSliceIndices none none (-1) z.length = sliceRange ((z.length : Int) - 1) (-1) (-1) := rfl
  rw [e, PySem.W.krv_sliceRange, PySem.W.krv_range, List.filterMap_reverse]
  congr 1
  exact PySem.W.krv_all z.cps
section
variable {X : Cx}
def tRevA (K : PySem.W.Frag) (te : TE) : TE := fun σ H Q => te σ H fun x H1 => (∃ a xs, x = .ref a ∧ SqL K H1 a xs ∧ ∀ p, H1 p = none → Q (.ref p) (upd H1 p (.lst xs.reverse))) ∨ (∃ a xs, x = .ref a ∧ SqT K H1 a xs ∧ ∀ p, H1 p = none → Q (.ref p) (upd H1 p (.tup xs.reverse))) ∨ ∃ z, x = .str z ∧ z.length ≤ sizeLine ∧ Q (.str (tx z.cps.toList.reverse)) H1
theorem pe_revA {e : Expr} {te : TE} {k : Nat} {p1 p2 p3 pos : Pos} (he : PE X e te) : PE X (.Subscript e (.Slice none none (some (.UnaryOp .USub (.Constant (.int 1) k p1) p2)) p3) pos) (tRevA X.K te) := by
  refine ⟨fun pins s σ H Q I h => ?_⟩
  refine Subscript_ (thn (he.run pins s σ H _ I h) fun v s1 ⟨x, H1, I1, r1, q1⟩ => ?_)
  have hst : PO X (some (.UnaryOp .USub (.Constant (.int 1) k p1) p2)) (tPart (tUn (rU fun i => .int (-i)) (tC (.int 1)))) := po_some (pe_un un_neg pe_int)
  refine wpAny_Slice (thn (po_none.run pins s1 σ H1 (fun o H2 => o = none ∧ H2 = H1) I1 ⟨rfl, rfl⟩) fun vl s2 ⟨l, H2, I2, pl, el, e2⟩ => ?_)
  subst el e2
  refine thn (po_none.run pins s2 σ H2 (fun o H3 => o = none ∧ H3 = H2) I2 ⟨rfl, rfl⟩) fun vu s3 ⟨u, H3, I3, pu, eu, e3⟩ => ?_
  subst eu e3
  refine thn (hst.run pins s3 σ H3 (fun o H4 => o = some (-1) ∧ H4 = H3) I3 ⟨1, rfl, -1, rfl, rfl, rfl⟩) fun vs s4 ⟨o, H4, I4, ps, eo, e4⟩ => ?_
  subst eo e4
  have I5 : Inv X pins σ H4 { s4 with heap := s4.heap.push { cls := .type "slice", data := .fields #[vl, vu, vs] } } := I4.kept (t' := s4.toks) fun b ob q => Heap.get?_push_of_some _ q
  cases pl
  cases pu
  rcases q1 with ⟨a, xs, ex, hx, q⟩ | ⟨a, xs, ex, hx, q⟩ | ⟨z, ex, hz, q⟩
  · subst ex
    cases r1
    obtain ⟨its, r, ht, hz⟩ := I5.list hx
    have hlen := r.length
    show wpAny (model X.prog X.w) X.A (subscriptTail e (.Slice none none (some (.UnaryOp .USub (.Constant (.int 1) k p1) p2)) p3) (.ref a) (.ref s4.heap.objs.size)) (EP X pins σ Q) X.xe { s4 with heap := s4.heap.push { cls := .type "slice", data := .fields #[.none, .none, vs] } }
    refine tail_any (ops := [.ref a, .ref s4.heap.objs.size]) ht.isList.typeIs (PySem.slot_list_getitem.lookup) ?_ (by with_unfolding_all rfl)
    refine wpAny_getItem_list_slice ht.isList (Heap.IsSliceOf.new _ .none .none vs) .none .none ps (by decide) ?_ (by rw [List.size_toArray]; omega)
    rw [PySem.W.krv_pick]
    refine ⟨.ref _, _, I5.laid (t' := s4.toks) (o := .lst xs.reverse) (fun b ob q => Heap.get?_push_of_some _ q) (Nat.le_refl _) ?_, rfl, q _ (I5.hok.fresh (Nat.le_refl _))⟩
    exact ⟨by rw [List.length_reverse]; exact hz, _, 0, r.reverse, Heap.get?_push_size _ rfl⟩
  · subst ex
    cases r1
    obtain ⟨its, r, ht, hz⟩ := I5.tuple hx
    have hlen := r.length
    show wpAny (model X.prog X.w) X.A (subscriptTail e (.Slice none none (some (.UnaryOp .USub (.Constant (.int 1) k p1) p2)) p3) (.ref a) (.ref s4.heap.objs.size)) (EP X pins σ Q) X.xe { s4 with heap := s4.heap.push { cls := .type "slice", data := .fields #[.none, .none, vs] } }
    refine tail_any (ops := [.ref a, .ref s4.heap.objs.size]) ht.typeIs (PyProof.Rows.slot_tuple_getitem.lookup) ?_ (by with_unfolding_all rfl)
    refine getItem_tuple_back ht (Heap.IsSliceOf.new _ .none .none vs) ps ?_ (by rw [List.size_toArray]; omega)
    refine ⟨.ref _, _, I5.laid (t' := s4.toks) (o := .tup xs.reverse) (fun b ob q => Heap.get?_push_of_some _ q) (Nat.le_refl _) ?_, rfl, q _ (I5.hok.fresh (Nat.le_refl _))⟩
    exact ⟨by rw [List.length_reverse]; exact hz, _, r.reverse, IsTup.new _ _⟩
  · subst ex
    obtain ⟨t, rfl⟩ := r1
    cases ps with
    | int i ti =>
      show wpAny (model X.prog X.w) X.A (subscriptTail e (.Slice none none (some (.UnaryOp .USub (.Constant (.int 1) k p1) p2)) p3) (.str z t) (.ref s4.heap.objs.size)) (EP X pins σ Q) X.xe { s4 with heap := s4.heap.push { cls := .type "slice", data := .fields #[.none, .none, .int (-1) ti] } }
      refine tail_any (ops := [.ref s4.heap.objs.size, .str z t]) (typeIs_str _ _ _) (F.slot_str_getitem.lookup) ?_ (by with_unfolding_all rfl)
      refine wpAny_getItem_str_slice (l := none) (u := none) (st := some (-1, ti)) ⟨_, Heap.get?_push_size _ rfl, rfl, rfl⟩ rfl ?_
      show Made.post (if ((-1 : Int) == 1 && (Builtin.Str.strSliceIndices none none (-1) z.length).length == z.length) = true then Made.val (.str z t) else Made.str ⟨((Builtin.Str.strSliceIndices none none (-1) z.length).filterMap (z.cps[·]?)).toArray⟩) (EP X pins σ Q) _
      rw [if_neg (by simp), str_back]
      refine ⟨?_, .str (tx z.cps.toList.reverse), _, I5.tok _, ⟨_, rfl⟩, q⟩
      show (tx z.cps.toList.reverse).length ≤ sizeLine
      simpa [Str.length] using hz
end
section
variable {K : PySem.W.Frag} {X : Cx} {WE : EW}
/-- x[::-1] -/
def dRevA (c : Bool) (m : DS → M D) : DS → M D := fun S => bd (m S) fun a => bd (rdw a) fun x => match x with
  | .list ds => mk c ds.reverse
  | .tuple ds => ret (.t (.tuple ds.reverse))
  | .str z => if z.length ≤ sizeLine then ret (.t (.str (tx z.cps.toList.reverse))) else fail
  | _ => fail
theorem de_revA (c : Bool) {e : Expr} {m : DS → M D} {k : Nat} {p1 p2 p3 pos : Pos} (he : DE X WE e m) : DE X WE (.Subscript e (.Slice none none (some (.UnaryOp .USub (.Constant (.int 1) k p1) p2)) p3) pos) (dRevA c m) :=
  PE.imp (pe_revA he) fun s H Q ⟨r0, S, h, R, p⟩ => ⟨r0, S, h, R, p.bd.mono fun a r1 h1 H1 R1 E1 q v dv => by
    obtain ⟨x, x1, x2⟩ := rdw_ok R1 dv q.bd
    cases x with
    | list ds =>
      obtain ⟨p, ys, rfl, e1, t1⟩ := x1
      refine .inl ⟨p, ys, rfl, e1, fun p np => ?_⟩
      obtain ⟨d, r', h', R', E', d1, g1⟩ := mk_ok R1 t1.reverse np x2
      exact g1 _ d1
    | tuple ds =>
      cases x1 with
      | @tup p ys _ e1 n1 t1 =>
        refine .inr (.inl ⟨p, ys, rfl, SqT.of e1, fun p np => ?_⟩)
        have g : Grow H1 (upd H1 p (.tup ys.reverse)) := Grow.upd np
        have E4 : Ext r1 h1 H1 r1 h1 (upd H1 p (.tup ys.reverse)) := .grow g
        exact x2 r1 _ (R1.grow g) E4 _ (.tup upd_same (R1.fresh np) (TRs.mono E4.keep _ _ t1.reverse))
    | str z =>
      simp only at x2
      split at x2
      · rename_i hz
        cases x1
        exact .inr (.inr ⟨_, rfl, hz, x2 r1 H1 R1 .refl _ (.str _)⟩)
      · exact False.elim x2
    | _ => exact False.elim x2⟩
end
/-! sorted(text) -/
section
variable {prog : Program} {w : World} {A : Around} {E : Value → Shared → Prop} {s : Shared}
theorem chars_of {x : Str} {acc : Array Value} (h : ItemsOf (SignAt x) acc x.cps.size) : Vals (x.cps.toList.map fun c => V.str (tx [c])) acc.toList := by
  obtain ⟨h1, h2⟩ := h
  have key : ∀ (l : List Nat) (vs : List Value), vs.length = l.length → (∀ (j : Nat) v, vs[j]? = some v → ∃ c u, l[j]? = some c ∧ v = Value.str ⟨#[c]⟩ u) → Vals (l.map fun c => V.str (tx [c])) vs := by
    intro l
    induction l with
    | nil =>
      intro vs hl _
      cases vs with
      | nil => exact .nil
      | cons v vs => cases hl
    | cons c l ih =>
      intro vs hl hv
      cases vs with
      | nil => cases hl
      | cons v vs =>
        obtain ⟨c', u, e1, e2⟩ := hv 0 v (by simp)
        simp at e1
        subst e1
        exact .cons ⟨u, e2⟩ (ih vs (by simpa using hl) fun j v' q => by
          obtain ⟨c2, u2, f1, f2⟩ := hv (j + 1) v' (by simpa using q)
          exact ⟨c2, u2, by simpa using f1, f2⟩)
  refine key _ _ (by simp [h1]) fun j v q => ?_
  obtain ⟨c2, u2, f1, f2⟩ := h2 j v (by simpa using q)
  exact ⟨c2, u2, by simpa using f1, f2⟩
theorem sorted_text {x : Str} {t : Tok} {Q : Value → Shared → Prop} (hh : A.handled = none) (hx : x.cps.size ≤ sizeLine)
    (h : ∀ (hm h' : Heap) (p : Addr) (tk : Nat) (out : List Value) (ys : List Str) (n : Nat), (∀ b o, s.heap.get? b = some o → hm.get? b = some o) → p = hm.objs.size → (∀ b o, s.heap.get? b = some o → h'.get? b = some o) → h'.get? p = some (seqObj "list" out.toArray n) → Vals (ys.map V.str) out → ys.Perm (x.cps.toList.map fun c => tx [c]) → sortedS ys = true → Q (.ref p) { s with heap := h', toks := tk }) :
    wpAny (model prog w) A (call (.builtin "sorted") [.str x t]) Q E s := by
  refine Calls.call_function_entry kind_sorted plain_sorted entry_sorted (args_sorted1 _) ?_
  unfold Builtin.«sorted»
  refine wpAny_bind (m := checkCount "sorted" 1 1 _) (wpAny_pure ?_)
  refine wpAny_bind (wpAny_collect_str (A := A.in1) hh x t (fun s' acc kp g1 g2 g3 it => ?_) hx)
  have es : s' = { s with heap := s'.heap, toks := s'.toks } := by
    cases s'; cases s
    simp only at g1 g2 g3
    subst g1 g2 g3
    rfl
  have rel := chars_of it
  have rel2 : Vals ((x.cps.toList.map fun c => tx [c]).map V.str) acc.toList := by rw [List.map_map]; exact rel
  have hL : acc.toList.length ≤ sizeLine := by
    have := rel.length
    rw [List.length_map, Array.length_toList] at this
    have h2 : x.cps.size ≤ sizeLine := hx
    rw [← this]
    exact h2
  refine wpAny_bind (wpAny_newList ?_ hL)
  have hoL : (s'.heap.push (seqObj "list" acc.toList.toArray 0)).get? s'.heap.objs.size = some (seqObj "list" acc.toList.toArray 0) := Heap.get?_push_size _ rfl
  show wpAny _ _ _ _ _ { s' with heap := s'.heap.push (seqObj "list" acc.toList.toArray 0) }
  have hS := rel2.strs
  refine wpAny_bind (wpAny_holding (wpAny_call_entry slot_list_sort ⟨_, hoL, rfl⟩ entry_list_sort (list_sort_treeKAny strKind_oneLt hoL hS.keysOf (fun v₁ v₂ rest e => keyKind_strs (by rw [← e]; exact hS)) hL fun st' hp hs => ⟨_, rfl, ?_⟩) (args_list_sort _)))
  obtain ⟨ss', h1, h2, h3⟩ := sorted_out_str hS hp hs
  obtain ⟨ep, he'⟩ := sortedHeap_at (vs := acc.toList) (out := (arrOf st').map (·.2)) hoL
  refine wpAny_pure ⟨_, rfl, ?_⟩
  have kp2 : ∀ b o, s.heap.get? b = some o → (sortedHeap (s'.heap.push (seqObj "list" acc.toList.toArray 0)) s'.heap.objs.size acc.toList ((arrOf st').map (·.2))).get? b = some o := fun b o q => by
    have q1 := kp b o q
    have lt := Heap.lt_size q1
    rw [sortedHeap_old (Nat.ne_of_lt lt) (by rw [PyProof.Rows.size_push']; exact Nat.lt_succ_of_lt lt)]
    exact Heap.get?_push_of_some _ q1
  have := h s'.heap _ s'.heap.objs.size s'.toks ((arrOf st').map (·.2)).toList ss' ep kp rfl kp2 (by rw [Array.toArray_toList]; exact he') (vals_of_strs h1) h2 h3
  rw [es]
  exact this
end
def rSortedT : List V → Hp → VK → Prop := fun vs H Q => ∃ x : Str, vs = [V.str x] ∧ x.length ≤ sizeLine ∧ ∀ (ys : List Str) (p : Addr), ys.Perm (x.cps.toList.map fun c => tx [c]) → sortedS ys = true → H p = none → Q (.ref p) (upd H p (.lst (ys.map V.str)))
section
variable {X : Cx} {K : PySem.W.Frag}
theorem cr_sortedT (hc : X.calm = true) : CallR X (.builtin "sorted") rSortedT := by
  intro pins s σ H vs us Q I r h
  obtain ⟨x, rfl, hx, q⟩ := h
  obtain ⟨u, rfl, ⟨t, rfl⟩⟩ := vals1 r
  refine sorted_text (I.ok.hd hc) hx fun hm h' p tk out ys n k1 hp kp ho rv pm so => ?_
  have hlen : (ys.map V.str).length ≤ sizeLine := by
    rw [List.length_map, pm.length_eq]
    simpa [Str.length] using hx
  have hn : H p = none := by rw [hp]; exact (I.hok.kept k1).fresh (Nat.le_refl _)
  have hg : s.heap.get? p = none := by
    cases e : s.heap.get? p with
    | none => rfl
    | some o => exact absurd (Heap.lt_size (k1 _ _ e)) (by rw [hp]; exact Nat.lt_irrefl _)
  exact ⟨.ref p, upd H p (.lst (ys.map V.str)), I.laidN (t' := tk) kp hg hn ⟨hlen, out, n, rv, ho⟩, rfl, q ys p pm so hn⟩
def sortTP : List PyData → Option (List PyData)
  | [.str x] => if x.length ≤ sizeLine then some ((sortS (x.cps.toList.map fun c => tx [c])).map .str) else none
  | _ => none
theorem pn_sortT : PureN K rSortedT sortTP := by
  intro L H vs xs ds Q w0 e k
  unfold sortTP at e
  split at e
  · rename_i x
    obtain ⟨v, rfl, w⟩ := w0.one
    cases w
    split at e
    · rename_i hl
      cases e
      refine ⟨x, rfl, hl, fun ys p hp hs np => ?_⟩
      rw [sortS_one hp hs]
      exact k p _ np (trs_strs _)
    · cases e
  · cases e
def sortR (xs : List PyData) : Option (List PyData) := (sortQ xs).or (sortTP xs)
theorem call_sortR (hc : X.calm = true) : CallR X (.builtin "sorted") (fun vs H Q => (rSortedI X.K vs H Q ∨ rSortedS X.K vs H Q) ∨ rSortedT vs H Q) := call_sortQ.or (cr_sortedT hc)
theorem pn_sortR : PureN K (fun vs H Q => (rSortedI K vs H Q ∨ rSortedS K vs H Q) ∨ rSortedT vs H Q) sortR := pn_sortQ.or pn_sortT
end
end DL
set_option Elab.async false
set_option linter.all false
set_option maxRecDepth 100000
set_option maxHeartbeats 2000000
set_option autoImplicit false
namespace DL
open PySem PySem.Spec L2
open PyProof.Rows hiding St
/-! enumerate(text), zip(text, text) -/
abbrev SP (x : Str) (i : Nat) (v : Value) : Prop := ∃ c u, x.cps[i]? = some c ∧ v = .str ⟨#[c]⟩ u
theorem draws_text {prog : Program} {w : World} {A : Around} (hh : A.handled = none) (it : Addr) (x : Str) (t : Tok) :
    Draws prog w A it [it] x.cps.size (SP x) (fun i h => h.IsStrIter it (strIterType x) x t i) := by
  unfold strIterType
  cases x.cps.all (· < 128)
  · exact Draws.strWide hh it x t
  · exact Draws.strAscii hh it x t
theorem text_iter {h : Heap} {it : Addr} {x : Str} {t : Tok} (e : h.get? it = some { cls := .type (strIterType x), data := .fields #[.str x t, .int 0 0] }) : h.IsStrIter it (strIterType x) x t 0 := ⟨_, e, rfl, rfl⟩
def Ites (x : Str) : It :=
  ⟨fun i H => i < x.cps.size, fun i H v H' => ∃ T c, v = .ref T ∧ H T = none ∧ H' = upd H T (.tup [.int (i : Nat), .str ⟨#[c]⟩]) ∧ x.cps[i]? = some c, fun i H => x.cps.size ≤ i⟩
theorem turn_enumS {P : Program} {w : World} {K : PySem.W.Frag} {elts : List Expr} {kk : Nat} {tpos : Pos} (x : Str) (t : Tok) (e it : Addr) :
    Turn P w K (.Tuple elts kk tpos) (Ites x) [e, it] e (fun i h => i ≤ x.cps.size ∧ (∃ old, IsEnum h e it ((i : Nat) : Int) old) ∧ h.IsStrIter it (strIterType x) x t i ∧ e ≠ it) where
  mem := by simp
  obj := fun i h st b hb => by
    obtain ⟨_, ⟨old, he⟩, ⟨o, ho, hc, hd⟩, _⟩ := st
    have e' : b = e ∨ b = it := by simpa using hb
    rcases e' with z | z
    · rw [z]; exact ⟨_, he, fun v q => nomatch q⟩
    · rw [z]; exact ⟨o, ho, fun v q => by rw [hd] at q; cases q⟩
  keep := fun i h h' st k => let ⟨hl, ⟨old, he⟩, ⟨o, ho, r⟩, hne⟩ := st; ⟨hl, ⟨old, k e (by simp) _ he⟩, ⟨o, k it (by simp) o ho, r⟩, hne⟩
  item := by
    intro X hP hw hK hc i pins s σ H E I hf st hg
    subst hP hw hK
    obtain ⟨hl, ⟨old, he⟩, hit, hne⟩ := st
    have hel : e < s.heap.objs.size := Heap.lt_size he
    have hil : it < s.heap.objs.size := by obtain ⟨_, q, _⟩ := hit; exact Heap.lt_size q
    have D : Draws X.prog X.w X.A.in1 it [it] x.cps.size (SP x) (fun i h => h.IsStrIter it (strIterType x) x t i) := draws_text (A := X.A.in1) (I.ok.hd hc) it x t
    refine wpAny_pyNext_enum_itemD D he hit hg hne (by simpa using hne) fun u h' tk hu ho hit' hT hsz hk => ?_
    obtain ⟨c, ut, hcx, rfl⟩ := hu
    refine ⟨_, rfl, wpAny_letOwnedTupleGo_enum (s := { s with heap := h', toks := tk + 1 }) ho fun h'' he' sb => ?_⟩
    have hT2 : h''.get? s.heap.objs.size = some { cls := .type "tuple", data := .seq #[.int i tk, .str ⟨#[c]⟩ ut] } := (sb.2 _ (Nat.ne_of_gt hel)).trans hT
    have new : ObjOk X.prog X.w (upd H s.heap.objs.size (.tup [.int (i : Nat), .str ⟨#[c]⟩])) h'' s.heap.objs.size (.tup [.int (i : Nat), .str ⟨#[c]⟩]) :=
      ⟨by show 2 ≤ sizeLine; decide, [.int i tk, .str ⟨#[c]⟩ ut], .cons ⟨_, rfl⟩ (.cons ⟨_, rfl⟩ .nil), ⟨_, hT2, rfl, _, rfl⟩⟩
    have I1 : Inv X pins σ (upd H s.heap.objs.size (.tup [.int (i : Nat), .str ⟨#[c]⟩])) { s with heap := h'', toks := tk + 1 } :=
      I.turnedNew (ch := [e, it]) (fun b ob hb q => (sb.2 b (fun z => hb (by simp [z]))).trans (hk b ob (fun z => hb (by simp [z])) (fun z => hb (by simp [z])) q)) hf (Nat.le_refl _) new
    refine ⟨.ref s.heap.objs.size, _, I1, rfl, ⟨_, c, rfl, I.hok.fresh (Nat.le_refl _), rfl, hcx⟩, ⟨hg, ⟨.str ⟨#[c]⟩ ut, ?_⟩, ?_, hne⟩, fun b hb => ?_⟩
    · have e1 : ((i + 1 : Nat) : Int) = (i : Int) + 1 := by omega
      rw [e1]; exact he'
    · obtain ⟨o, ho2, r⟩ := hit'
      exact ⟨o, (sb.2 it (Ne.symm hne)).trans ho2, r⟩
    · have hb' : b < s.heap.objs.size := by
        have e' : b = e ∨ b = it := by simpa using hb
        rcases e' with z | z
        · rw [z]; exact hel
        · rw [z]; exact hil
      rw [upd_ne (Nat.ne_of_lt hb')]
      exact (hf b hb).1
  done := by
    intro X hP hw hK hc i pins s σ H E I hf st hg
    subst hP hw hK
    obtain ⟨hl, ⟨old, he⟩, hit, hne⟩ := st
    obtain ⟨f0, f1, f2, f3, f4, f5⟩ := hf it (by simp)
    have D : Draws X.prog X.w X.A.in1 it [it] x.cps.size (SP x) (fun i h => h.IsStrIter it (strIterType x) x t i) := draws_text (A := X.A.in1) (I.ok.hd hc) it x t
    have hi : i = x.cps.size := Nat.le_antisymm hl hg
    rw [hi] at hit
    exact wpAny_pyNext_enum_endD D he hit fun h' eb => ⟨rfl, I.turned (t' := s.toks) (fun b o hb q => eb b o hb q) f0 f1 f3 f4 f5⟩
  self := fun A i s Q E st h => let ⟨_, ⟨_, he⟩, _⟩ := st; wpAny_pyIter_enum he h
def iEnumS (ta : TA) : TI := fun σ H R => ta σ H fun vs H1 => ∃ x : Str, vs = [.str x] ∧ R (Ites x) H1
theorem pi_enumS {X : Cx} {e : Expr} {ta : TA} {p pos tpos : Pos} {elts : List Expr} {kk : Nat} (hg : Gl X "enumerate") (hm : X.mg "enumerate" = none) (ha : PA X [e] ta) (hs : starEach [e] X.env = [(false, eval e X.env)] := by rfl) :
    PI X (.Tuple elts kk tpos) (.Call (.Name "enumerate" p) [e] [] pos) (iEnumS ta) := by
  refine ⟨fun pins s σ H R I h => ?_⟩
  refine Call_ (ld_blt I hg hm boot_enumerate (PyProof.Rows.callWith_type1 (thn (ha.run pos pins s σ H _ I h) fun us s1 ⟨vs, H1, I1, r1, q1⟩ => ?_) hs rfl))
  obtain ⟨x, ex, q⟩ := q1
  subst ex
  cases r1 with
  | cons r rr =>
    cases rr
    obtain ⟨t, rfl⟩ := r
    refine call_enumerate_str fun h' he hit hsz hk => wpAny_pyIter_enum he ?_
    have I2 : Inv X pins σ H1 { s1 with heap := h' } := I1.kept (t' := s1.toks) hk
    refine ⟨s1.heap.objs.size + 1, [s1.heap.objs.size + 1, s1.heap.objs.size], _, _, H1, rfl, I2, turn_enumS x t (s1.heap.objs.size + 1) s1.heap.objs.size, ⟨Nat.zero_le _, ⟨.none, he⟩, hit, Nat.succ_ne_self _⟩, fun b hb => ?_, q⟩
    have e' : b = s1.heap.objs.size + 1 ∨ b = s1.heap.objs.size := by simpa using hb
    have hle : s1.heap.objs.size ≤ b := by
      rcases e' with z | z
      · rw [z]; exact Nat.le_add_right _ _
      · rw [z]; exact Nat.le_refl _
    exact I1.fpOk hle (I1.hok.fresh hle)
def Itzs (x y : Str) : It :=
  ⟨fun i H => i < x.cps.size ∧ i < y.cps.size, fun i H v H' => ∃ T c d, v = .ref T ∧ H T = none ∧ H' = upd H T (.tup [.str ⟨#[c]⟩, .str ⟨#[d]⟩]) ∧ x.cps[i]? = some c ∧ y.cps[i]? = some d, fun i H => x.cps.size ≤ i ∨ y.cps.size ≤ i⟩
theorem turn_zipS {P : Program} {w : World} {K : PySem.W.Frag} {elts : List Expr} {kk : Nat} {tpos : Pos} {z TI TO i1 i2 : Addr} (x y : Str) (t u : Tok) (S : ZipSep2 z TI TO i1 i2 [i1] [i2]) :
    Turn P w K (.Tuple elts kk tpos) (Itzs x y) [z, TI, TO, i1, i2] z (fun i h => (i ≤ x.cps.size ∧ i ≤ y.cps.size) ∧ IsZip h z TI TO .none ∧ IsTupOf2 h TI (.ref i1) (.ref i2) ∧ (∃ a b, IsTupOf2 h TO a b) ∧ h.IsStrIter i1 (strIterType x) x t i ∧ h.IsStrIter i2 (strIterType y) y u i) where
  mem := by simp
  obj := fun i h st c hc => by
    obtain ⟨_, hz, hTI, ⟨a, b, hTO⟩, ⟨o1, e1, _, d1⟩, ⟨o2, e2, _, d2⟩⟩ := st
    have e' : c = z ∨ c = TI ∨ c = TO ∨ c = i1 ∨ c = i2 := by simpa using hc
    rcases e' with q | q | q | q | q
    · rw [q]; exact ⟨_, hz, fun v q => nomatch q⟩
    · rw [q]; exact ⟨_, hTI, fun v q => nomatch q⟩
    · rw [q]; exact ⟨_, hTO, fun v q => nomatch q⟩
    · rw [q]; exact ⟨o1, e1, fun v q => by rw [d1] at q; cases q⟩
    · rw [q]; exact ⟨o2, e2, fun v q => by rw [d2] at q; cases q⟩
  keep := fun i h h' st k => by
    obtain ⟨hl, hz, hTI, ⟨a, b, hTO⟩, ⟨o1, e1, r1⟩, ⟨o2, e2, r2⟩⟩ := st
    exact ⟨hl, k z (by simp) _ hz, k TI (by simp) _ hTI, ⟨a, b, k TO (by simp) _ hTO⟩, ⟨o1, k i1 (by simp) o1 e1, r1⟩, ⟨o2, k i2 (by simp) o2 e2, r2⟩⟩
  item := by
    intro X hP hw hK hc i pins s σ H E I hf st hg
    subst hP hw hK
    obtain ⟨hl, hz, hTI, ⟨a0, b0, hTO⟩, h1, h2⟩ := st
    have hzl : z < s.heap.objs.size := Heap.lt_size hz
    have D1 : Draws X.prog X.w X.A.in1 i1 [i1] x.cps.size (SP x) (fun i h => h.IsStrIter i1 (strIterType x) x t i) := draws_text (A := X.A.in1) (I.ok.hd hc) i1 x t
    have D2 : Draws X.prog X.w X.A.in1 i2 [i2] y.cps.size (SP y) (fun i h => h.IsStrIter i2 (strIterType y) y u i) := draws_text (A := X.A.in1) (I.ok.hd hc) i2 y u
    refine wpAny_pyNext_zipD2_item S D1 D2 hz hTI hTO h1 h2 hg.1 hg.2 fun v1 v2 h' tk hv1 hv2 z' TO' h1' h2' hT hsz hk => ?_
    obtain ⟨c, ut, hcx, rfl⟩ := hv1
    obtain ⟨d, ud, hdy, rfl⟩ := hv2
    refine ⟨_, rfl, wpAny_letOwnedTupleGo_zip (s := { s with heap := h', toks := tk }) z' fun h'' z'' sb => ?_⟩
    have hT2 : h''.get? s.heap.objs.size = some { cls := .type "tuple", data := .seq #[.str ⟨#[c]⟩ ut, .str ⟨#[d]⟩ ud] } := (sb.2 _ (Nat.ne_of_gt hzl)).trans hT
    have new : ObjOk X.prog X.w (upd H s.heap.objs.size (.tup [.str ⟨#[c]⟩, .str ⟨#[d]⟩])) h'' s.heap.objs.size (.tup [.str ⟨#[c]⟩, .str ⟨#[d]⟩]) :=
      ⟨by show 2 ≤ sizeLine; decide, [.str ⟨#[c]⟩ ut, .str ⟨#[d]⟩ ud], .cons ⟨_, rfl⟩ (.cons ⟨_, rfl⟩ .nil), ⟨_, hT2, rfl, _, rfl⟩⟩
    have I1 : Inv X pins σ (upd H s.heap.objs.size (.tup [.str ⟨#[c]⟩, .str ⟨#[d]⟩])) { s with heap := h'', toks := tk } :=
      I.turnedNew (ch := [z, TI, TO, i1, i2]) (fun c o hb q => (sb.2 c (fun q' => hb (by simp [q']))).trans (hk c o (fun q' => hb (by simp [q'])) (fun q' => hb (by simp [q'])) (fun q' => hb (by simp [q'])) (fun q' => hb (by simp [q'])) q)) hf (Nat.le_refl _) new
    refine ⟨.ref s.heap.objs.size, _, I1, rfl, ⟨_, c, d, rfl, I.hok.fresh (Nat.le_refl _), rfl, hcx, hdy⟩, ⟨⟨hg.1, hg.2⟩, z'', ?_, ⟨.str ⟨#[c]⟩ ut, .str ⟨#[d]⟩ ud, ?_⟩, ?_, ?_⟩, fun c hcm => ?_⟩
    · exact (sb.2 _ S.TIz).trans (hk _ _ S.TIz S.TITO S.TIi1 S.TIi2 hTI)
    · exact (sb.2 _ S.TOz).trans TO'
    · obtain ⟨o, ho, r⟩ := h1'
      exact ⟨o, (sb.2 _ (Ne.symm S.zi1)).trans ho, r⟩
    · obtain ⟨o, ho, r⟩ := h2'
      exact ⟨o, (sb.2 _ (Ne.symm S.zi2)).trans ho, r⟩
    · have hlt : c < s.heap.objs.size := by
        have e' : c = z ∨ c = TI ∨ c = TO ∨ c = i1 ∨ c = i2 := by simpa using hcm
        rcases e' with q | q | q | q | q
        · rw [q]; exact hzl
        · rw [q]; exact Heap.lt_size hTI
        · rw [q]; exact Heap.lt_size hTO
        · rw [q]; obtain ⟨_, e1, _⟩ := h1; exact Heap.lt_size e1
        · rw [q]; obtain ⟨_, e2, _⟩ := h2; exact Heap.lt_size e2
      rw [upd_ne (Nat.ne_of_lt hlt)]
      exact (hf c hcm).1
  done := by
    intro X hP hw hK hc i pins s σ H E I hf st hg
    subst hP hw hK
    obtain ⟨hl, hz, hTI, ⟨a0, b0, hTO⟩, h1, h2⟩ := st
    have D1 : Draws X.prog X.w X.A.in1 i1 [i1] x.cps.size (SP x) (fun i h => h.IsStrIter i1 (strIterType x) x t i) := draws_text (A := X.A.in1) (I.ok.hd hc) i1 x t
    have D2 : Draws X.prog X.w X.A.in1 i2 [i2] y.cps.size (SP y) (fun i h => h.IsStrIter i2 (strIterType y) y u i) := draws_text (A := X.A.in1) (I.ok.hd hc) i2 y u
    have he : i = x.cps.size ∨ i = y.cps.size := by
      rcases hg with q | q
      · exact .inl (Nat.le_antisymm hl.1 q)
      · exact .inr (Nat.le_antisymm hl.2 q)
    exact wpAny_pyNext_zipD2_end S D1 D2 hz hTI hTO h1 h2 hl.1 hl.2 he fun h' tk hk => ⟨rfl, I.turnedL (t' := tk) (ch := [z, TI, TO, i1, i2]) (fun c o hb q =>
      hk c o (fun q' => hb (by simp [q'])) (fun q' => hb (by simp [q'])) (fun q' => hb (by simp [q'])) (fun q' => hb (by simp [q'])) q) hf⟩
  self := fun A i s Q E st h => wpAny_pyIter_zip st.2.1 h
def iZipS (ta : TA) : TI := fun σ H R => ta σ H fun vs H1 => ∃ x y : Str, vs = [.str x, .str y] ∧ R (Itzs x y) H1
theorem pi_zipS {X : Cx} {e e2 : Expr} {ta : TA} {p pos tpos : Pos} {elts : List Expr} {kk : Nat} (hg : Gl X "zip") (hm : X.mg "zip" = none) (ha : PA X [e, e2] ta)
    (hs : starEach [e, e2] X.env = (false, eval e X.env) :: starEach [e2] X.env := by rfl) (hpl : (backTo pos (starEach [e2] X.env)).any (·.1) = false := by rfl) :
    PI X (.Tuple elts kk tpos) (.Call (.Name "zip" p) [e, e2] [] pos) (iZipS ta) := by
  refine ⟨fun pins s σ H R I h => ?_⟩
  refine Call_ (ld_blt I hg hm PyProof.Rows.boot_zip (PyProof.Rows.callWith_type1 (thn (ha.run pos pins s σ H _ I h) fun us s1 ⟨vs, H1, I1, r1, q1⟩ => ?_) hs hpl))
  obtain ⟨x, y, ex, q⟩ := q1
  subst ex
  cases r1 with
  | cons r rr =>
    cases rr with
    | cons r' rr =>
      cases rr
      obtain ⟨t, rfl⟩ := r
      obtain ⟨u, rfl⟩ := r'
      have fresh5 : ∀ c, c ∈ [s1.heap.objs.size + 4, s1.heap.objs.size + 2, s1.heap.objs.size + 3, s1.heap.objs.size, s1.heap.objs.size + 1] → FpOk X pins H1 c := fun c hcm => by
        have e' : c = s1.heap.objs.size + 4 ∨ c = s1.heap.objs.size + 2 ∨ c = s1.heap.objs.size + 3 ∨ c = s1.heap.objs.size ∨ c = s1.heap.objs.size + 1 := by simpa using hcm
        have hle : s1.heap.objs.size ≤ c := by
          rcases e' with z | z | z | z | z
          · rw [z]; exact Nat.le_add_right _ _
          · rw [z]; exact Nat.le_add_right _ _
          · rw [z]; exact Nat.le_add_right _ _
          · rw [z]; exact Nat.le_refl _
          · rw [z]; exact Nat.le_add_right _ _
        exact I1.fpOk hle (I1.hok.fresh hle)
      have sep : ZipSep2 (s1.heap.objs.size + 4) (s1.heap.objs.size + 2) (s1.heap.objs.size + 3) s1.heap.objs.size (s1.heap.objs.size + 1) [s1.heap.objs.size] [s1.heap.objs.size + 1] := zip_sep2 (N := s1.heap.objs.size) (fp1 := []) (fp2 := []) (by simp) (by simp)
      refine zip_begins2 (begins_text x t) (begins_text y u) trivial trivial fun h' hz hTI hTO h1 h2 hsz hk => wpAny_pyIter_zip hz ?_
      have I2 : Inv X pins σ H1 { s1 with heap := h' } := I1.kept (t' := s1.toks) hk
      exact ⟨s1.heap.objs.size + 4, [s1.heap.objs.size + 4, s1.heap.objs.size + 2, s1.heap.objs.size + 3, s1.heap.objs.size, s1.heap.objs.size + 1], _, _, H1, rfl, I2, turn_zipS x y t u sep, ⟨⟨Nat.zero_le _, Nat.zero_le _⟩, hz, hTI, ⟨_, _, hTO⟩, text_iter h1, text_iter h2⟩, fresh5, q⟩
end DL
set_option Elab.async false
set_option linter.all false
set_option maxRecDepth 100000
set_option maxHeartbeats 2000000
set_option autoImplicit false
namespace DL
open PySem PySem.Spec L2
open PyProof.Rows hiding St
section
variable {X : Cx} {WE : EW} {K : PySem.W.Frag}
theorem signs_at {x : Str} {i : Nat} {d : PyData} {c : Nat} (q : (signsP x)[i]? = some d) (e : x.cps[i]? = some c) : d = .str ⟨#[c]⟩ := by
  unfold signsP at q
  rw [List.getElem?_map, Array.getElem?_toList, e] at q
  cases q
  rfl
theorem signs_len (x : Str) : (signsP x).length = x.cps.size := by simp [signsP]
theorem itr_enumS {x : Str} : ItR K (enumD (signsP x)) (Ites x) (fun _ _ _ => True) where
  keep := fun _ _ _ _ _ _ _ _ => trivial
  go := fun r h H i _ l => by
    have : i < (signsP x).length := by simpa [enumD] using l
    rwa [signs_len] at this
  stop := fun r h H i _ l => by
    have : (signsP x).length ≤ i := by simpa [enumD] using l
    rwa [signs_len] at this
  yld := fun r S h s H i d z H' _ R q y => by
    obtain ⟨T, c, rfl, nT, rfl, e⟩ := y
    have hi : i < (signsP x).length := by rw [signs_len]; exact (Array.getElem?_eq_some_iff.mp e).1
    have e0 : (signsP x)[i]? = some (.str ⟨#[c]⟩) := by
      rw [List.getElem?_eq_getElem hi]
      exact congrArg some (signs_at (List.getElem?_eq_getElem hi) e)
    unfold enumD at q
    rw [List.getElem?_zipWith, List.getElem?_range hi, e0] at q
    cases q
    have g : Grow H (upd H T (.tup [.int (i : Nat), .str ⟨#[c]⟩])) := Grow.upd nT
    exact ⟨g, .tup upd_same (R.fresh nT) (.cons (.int _) (.cons (.str _) .nil))⟩
theorem itr_zipS {x y : Str} : ItR K (zipD (signsP x) (signsP y)) (Itzs x y) (fun _ _ _ => True) where
  keep := fun _ _ _ _ _ _ _ _ => trivial
  go := fun r h H i _ l => by
    have : i < min (signsP x).length (signsP y).length := by simpa [zipD] using l
    rw [signs_len, signs_len] at this
    exact ⟨by omega, by omega⟩
  stop := fun r h H i _ l => by
    have : min (signsP x).length (signsP y).length ≤ i := by simpa [zipD] using l
    rw [signs_len, signs_len] at this
    show x.cps.size ≤ i ∨ y.cps.size ≤ i
    omega
  yld := fun r S h s H i d z H' _ R q yy => by
    obtain ⟨T, c, d', rfl, nT, rfl, e1, e2⟩ := yy
    have h1 : i < (signsP x).length := by rw [signs_len]; exact (Array.getElem?_eq_some_iff.mp e1).1
    have h2 : i < (signsP y).length := by rw [signs_len]; exact (Array.getElem?_eq_some_iff.mp e2).1
    have f1 : (signsP x)[i]? = some (.str ⟨#[c]⟩) := by
      rw [List.getElem?_eq_getElem h1]
      exact congrArg some (signs_at (List.getElem?_eq_getElem h1) e1)
    have f2 : (signsP y)[i]? = some (.str ⟨#[d']⟩) := by
      rw [List.getElem?_eq_getElem h2]
      exact congrArg some (signs_at (List.getElem?_eq_getElem h2) e2)
    unfold zipD at q
    rw [List.getElem?_zipWith, f1, f2] at q
    cases q
    have g : Grow H (upd H T (.tup [.str ⟨#[c]⟩, .str ⟨#[d']⟩])) := Grow.upd nT
    exact ⟨g, .tup upd_same (R.fresh nT) (.cons (.str _) (.cons (.str _) .nil))⟩
/-- enumerate of a list, a text -/
def iEnuA (m : DS → M D) : DS → M (List PyData) := fun S => bd (m S) fun d => match d with
  | .t (.list ds) => ret (enumD ds)
  | .t (.str x) => ret (enumD (signsP x))
  | _ => fail
theorem di_enumA {e : Expr} {m : DS → M D} {p pos tpos : Pos} {elts : List Expr} {kk : Nat} (hg : Gl X "enumerate") (hm : X.mg "enumerate" = none) (ha : DE X WE e m) (n1 : starEach [e] X.env = (false, eval e X.env) :: starEach [] X.env := by rfl) (hs : starEach [e] X.env = [(false, eval e X.env)] := by rfl) : DI X WE (.Tuple elts kk tpos) (.Call (.Name "enumerate" p) [e] [] pos) (iEnuA m) :=
  PI.imp (PI.or (pi_enum hg hm (pa_cons ha pa_nil n1) hs) (pi_enumS hg hm (pa_cons ha pa_nil n1) hs)) fun s H Q ⟨r, S, h, R, p⟩ => by
    have p1 := p.bd
    cases e : m S h with
    | none => rw [e] at p1; exact False.elim p1
    | some y =>
      cases y with
      | err c q h' => exact .inl ⟨r, S, h, R, by rw [e] at p1 ⊢; exact p1⟩
      | ok d h' =>
        rw [e] at p1
        cases d with
        | t d =>
          cases d with
          | list ds =>
            refine .inl ⟨r, S, h, R, ?_⟩
            rw [e]
            intro r1 H1 R1 E1 v dv
            cases dv with
            | lst e n t => exact ⟨_, _, rfl, SqL.of e, (p1 r1 H1 R1 E1) r1 H1 R1 .refl _ _ H1 Grow.refl ⟨e, n, t⟩ itr_enum⟩
          | str x =>
            refine .inr ⟨r, S, h, R, ?_⟩
            rw [e]
            intro r1 H1 R1 E1 v dv
            cases dv
            exact ⟨_, rfl, (p1 r1 H1 R1 E1) r1 H1 R1 .refl _ _ H1 Grow.refl trivial itr_enumS⟩
          | none => exact .inl ⟨r, S, h, R, by rw [e]; exact fun r1 H1 R1 E1 => (p1 r1 H1 R1 E1).elim⟩
          | bool b => exact .inl ⟨r, S, h, R, by rw [e]; exact fun r1 H1 R1 E1 => (p1 r1 H1 R1 E1).elim⟩
          | int i => exact .inl ⟨r, S, h, R, by rw [e]; exact fun r1 H1 R1 E1 => (p1 r1 H1 R1 E1).elim⟩
          | tuple i => exact .inl ⟨r, S, h, R, by rw [e]; exact fun r1 H1 R1 E1 => (p1 r1 H1 R1 E1).elim⟩
          | dict kvs => exact .inl ⟨r, S, h, R, by rw [e]; exact fun r1 H1 R1 E1 => (p1 r1 H1 R1 E1).elim⟩
        | c n => exact .inl ⟨r, S, h, R, by rw [e]; exact fun r1 H1 R1 E1 => (p1 r1 H1 R1 E1).elim⟩
        | k u => exact .inl ⟨r, S, h, R, by rw [e]; exact fun r1 H1 R1 E1 => (p1 r1 H1 R1 E1).elim⟩
        | s ns => exact .inl ⟨r, S, h, R, by rw [e]; exact fun r1 H1 R1 E1 => (p1 r1 H1 R1 E1).elim⟩
/-- zip of two lists, two tuples, two texts -/
def zipMA : List D → M (List PyData)
  | [.t (.list ds), .t (.list es)] => ret (zipD ds es)
  | [.t (.tuple ds), .t (.tuple es)] => ret (zipD ds es)
  | [.t (.str x), .t (.str y)] => ret (zipD (signsP x) (signsP y))
  | _ => fail
def iZipA (ms : DS → M (List D)) : DS → M (List PyData) := fun S => bd (ms S) zipMA
theorem zipMA_inv {ds : List D} {h h' : Hd} {r : Res (List PyData)} (e : zipMA ds h = some r) : (∃ a b, ds = [.t (.list a), .t (.list b)] ∧ r = .ok (zipD a b) h) ∨ (∃ a b, ds = [.t (.tuple a), .t (.tuple b)] ∧ r = .ok (zipD a b) h) ∨ (∃ a b, ds = [.t (.str a), .t (.str b)] ∧ r = .ok (zipD (signsP a) (signsP b)) h) := by
  unfold zipMA at e
  split at e
  · cases e; exact .inl ⟨_, _, rfl, rfl⟩
  · cases e; exact .inr (.inl ⟨_, _, rfl, rfl⟩)
  · cases e; exact .inr (.inr ⟨_, _, rfl, rfl⟩)
  · cases e
theorem di_zipA {e e2 : Expr} {ms : DS → M (List D)} {p pos tpos : Pos} {elts : List Expr} {kk : Nat} (hg : Gl X "zip") (hm : X.mg "zip" = none) (ha : DA X WE [e, e2] ms) (hs : starEach [e, e2] X.env = (false, eval e X.env) :: starEach [e2] X.env := by rfl) (hpl : (backTo pos (starEach [e2] X.env)).any (·.1) = false := by rfl) : DI X WE (.Tuple elts kk tpos) (.Call (.Name "zip" p) [e, e2] [] pos) (iZipA ms) :=
  PI.imp (PI.or (RZ.pi_zipA hg hm ha hs hpl) (pi_zipS hg hm ha hs hpl)) fun s H Q ⟨r, S, h, R, p⟩ => by
    have p1 := p.bd
    cases em : ms S h with
    | none => rw [em] at p1; exact False.elim p1
    | some y =>
      cases y with
      | err c q h' => exact .inl ⟨r, S, h, R, by rw [em] at p1 ⊢; exact p1⟩
      | ok ds h1 =>
        rw [em] at p1
        cases e0 : zipMA ds h1 with
        | none => exact .inl ⟨r, S, h, R, by rw [em]; exact fun r1 H1 R1 E1 => by have := p1 r1 H1 R1 E1; simp only [e0] at this; exact this.elim⟩
        | some y =>
          rcases zipMA_inv (h' := h1) e0 with ⟨a, b, rfl, rfl⟩ | ⟨a, b, rfl, rfl⟩ | ⟨a, b, rfl, rfl⟩
          · refine .inl ⟨r, S, h, R, ?_⟩
            rw [em]
            intro r1 H1 R1 E1 vs dvs
            have q := p1 r1 H1 R1 E1
            simp only [e0] at q
            cases dvs with
            | cons d1 dvs =>
              cases dvs with
              | cons d2 dvs =>
                cases dvs
                cases d1 with
                | lst e n t =>
                  cases d2 with
                  | lst e2 n2 t2 => exact ⟨_, _, _, _, rfl, .inl ⟨SqL.of e, SqL.of e2, q r1 H1 R1 .refl _ _ H1 Grow.refl ⟨⟨e, n, t⟩, e2, n2, t2⟩ itr_zip⟩⟩
          · refine .inl ⟨r, S, h, R, ?_⟩
            rw [em]
            intro r1 H1 R1 E1 vs dvs
            have q := p1 r1 H1 R1 E1
            simp only [e0] at q
            cases dvs with
            | cons d1 dvs =>
              cases dvs with
              | cons d2 dvs =>
                cases dvs
                cases d1 with
                | tup e n t =>
                  cases d2 with
                  | tup e2 n2 t2 => exact ⟨_, _, _, _, rfl, .inr ⟨SqT.of e, SqT.of e2, q r1 H1 R1 .refl _ _ H1 Grow.refl ⟨⟨e, n, t⟩, e2, n2, t2⟩ itr_zipT⟩⟩
          · refine .inr ⟨r, S, h, R, ?_⟩
            rw [em]
            intro r1 H1 R1 E1 vs dvs
            have q := p1 r1 H1 R1 E1
            simp only [e0] at q
            cases dvs with
            | cons d1 dvs =>
              cases dvs with
              | cons d2 dvs =>
                cases dvs
                cases d1
                cases d2
                exact ⟨_, _, rfl, q r1 H1 R1 .refl _ _ H1 Grow.refl trivial itr_zipS⟩
/-! min of three -/
def min3I (i j k : Int) : Int := if j < i then (if k < j then k else j) else (if k < i then k else i)
theorem call_min3 (hc : X.calm = true) : CallR X (.builtin "min") (fun xs H Q => ∃ i j k, xs = [.int i, .int j, .int k] ∧ Q (.int (min3I i j k)) H) := by
  intro pins s σ H xs us Q I r h
  obtain ⟨i, j, k, rfl, q⟩ := h
  cases r with
  | cons r1 r =>
    cases r with
    | cons r2 r =>
      cases r with
      | cons r3 r =>
        cases r
        obtain ⟨t1, rfl⟩ := r1
        obtain ⟨t2, rfl⟩ := r2
        obtain ⟨t3, rfl⟩ := r3
        refine min_three_ints (I.ok.hd hc) fun h' tk kp => ⟨_, H, I.kept kp, ?_, q⟩
        unfold min3I
        split <;> split <;> exact ⟨_, rfl⟩
def min3P : List PyData → Option PyData
  | [.int i, .int j, .int k] => some (.int (min3I i j k))
  | _ => none
theorem pw_min3 : PureW K (fun xs H Q => ∃ i j k, xs = [.int i, .int j, .int k] ∧ Q (.int (min3I i j k)) H) min3P := by
  intro L H vs xs z Q hL w0 e k
  unfold min3P at e
  split at e
  · rename_i i j l
    cases e
    cases w0 with
    | cons w1 w0 =>
      cases w0 with
      | cons w2 w0 =>
        cases w0 with
        | cons w3 w0 =>
          cases w0
          cases w1
          cases w2
          cases w3
          exact ⟨_, _, _, rfl, k _ H Grow.refl (.int _)⟩
  · cases e
def minR (xs : List PyData) : Option PyData := (minQ xs).or (min3P xs)
theorem call_minR (hc : X.calm = true) (hu : X.A.units + 64 < cLine) : CallR X (.builtin "min") (fun xs H Q => (((∃ i j, xs = [.int i, .int j] ∧ Q (.int (if j < i then j else i)) H) ∨ rMin X.K xs H Q) ∨ rBestD X.K PySem.W.minD xs H Q) ∨ ∃ i j k, xs = [.int i, .int j, .int k] ∧ Q (.int (min3I i j k)) H) := (call_minQ hc hu).or (call_min3 hc)
theorem pw_minR : PureW K (fun xs H Q => (((∃ i j, xs = [.int i, .int j] ∧ Q (.int (if j < i then j else i)) H) ∨ rMin K xs H Q) ∨ rBestD K PySem.W.minD xs H Q) ∨ ∃ i j k, xs = [.int i, .int j, .int k] ∧ Q (.int (min3I i j k)) H) minR := pw_minQ.or pw_min3
/-! xs.extend(ys) -/
/-- xs.extend(e), e a list -/
def dExt (mo me : DS → M D) : DS → M D := fun S => bd (mo S) fun o => match o with
  | .c n => bd (getC n) fun _ => bd (me S) fun v => match v with
    | .t (.list zs) => bd (getC n) fun ds => if ds.length + zs.length ≤ sizeLine then bd (setC n (ds ++ zs)) fun _ => ret (.t .none) else fail
    | _ => fail
  | _ => fail
theorem ext_imp {mo me : DS → M D} (s : St) (H : Hp) (Q : VK) : tD K WE (dExt mo me) s H Q → tBM K "list" rExtend (tD K WE mo) (tCons (tD K WE me) tNil) s H Q := by
  rintro ⟨r0, S, h, R, p⟩
  refine ⟨r0, S, h, R, p.bd.mono fun o r1 h1 H1 R1 E1 q v dv => ?_⟩
  cases o with
  | c n =>
    have q1 := q.bd
    obtain ⟨a, qa, rfl⟩ := dv
    unfold getC at q1
    cases ec : h1[n]? with
    | none => simp only [ec] at q1; exact False.elim q1
    | some cc =>
      cases cc with
      | gone d => simp only [ec] at q1; exact False.elim q1
      | lst ds0 =>
        simp only [ec] at q1
        obtain ⟨xs0, x1, x2⟩ := R1.cell n _ a ec qa
        refine ⟨.inl ⟨rfl, xs0, SqL.of x1⟩, r1, S, h1, R1, (q1 r1 H1 R1 .refl).bd.mono fun y r2 h2 H2 R2 E2 q2 w dw => ?_⟩
        cases y with
        | t d =>
          cases d with
          | list zs =>
            simp only [] at q2
            have z3 := q2.bd
            unfold getC at z3
            have qa2 : r2[n]? = some a := by
              obtain ⟨l, pl⟩ := E2.pre
              rw [pl, List.getElem?_append_left (List.getElem?_eq_some_iff.mp qa).1]
              exact qa
            cases ec2 : h2[n]? with
            | none => simp only [ec2] at z3; exact False.elim z3
            | some cc =>
              cases cc with
              | gone d => simp only [ec2] at z3; exact False.elim z3
              | lst ds =>
                simp only [ec2] at z3
                have z4 := z3 r2 H2 R2 .refl
                simp only [] at z4
                obtain ⟨xs, y1, y2⟩ := R2.cell n _ a ec2 qa2
                cases dw with
                | @lst p ys _ eb nb tb =>
                  split at z4
                  · rename_i hl
                    obtain ⟨R4, E4⟩ := R2.wr ec2 qa2 (y2.append tb)
                    refine ⟨a, p, xs, ys, rfl, rfl, y1, eb, by rw [y2.length, tb.length]; exact hl, ?_⟩
                    exact ((z4.bd r2 _ R4 E4).ret R4) _ .non
                  · exact False.elim z4
          | _ => exact False.elim q2
        | _ => exact False.elim q2
  | _ => exact False.elim q
section
variable {o e : Expr} {mo : DS → M D} {apos cpos : Pos}
theorem de_ext {ms : DS → M D} (ho : DE X WE o mo) (he : DE X WE e ms) (hbase : attributeBase o "extend" X.env (eval o X.env) = eval o X.env := by rfl)
    (hfew : ((backTo cpos (starEach [e] X.env)).all (fun x => !x.1) && (backToKw cpos (keywordEach [] X.env)).all (fun x => x.1.isSome) && decide ([e].length + ([] : List Keyword).length + (if ([] : List Keyword).isEmpty then 0 else 1) < 30)) = true := by rfl)
    (hline : (apos.endLine == cpos.line) = true := by rfl) (hs : starEach [e] X.env = (false, eval e X.env) :: starEach [] X.env := by rfl) (hplain : (backTo cpos (starEach [] X.env)).any (·.1) = false := by rfl) :
    DE X WE (.Call (.Attribute o "extend" apos) [e] [] cpos) (dExt mo ms) :=
  PE.imp (pe_bm PySem.F.plainAttrs_list PySem.F.slot_list_extend PySem.F.type_list_extend mt_extend ho (pa_cons he pa_nil hs) hbase hfew hline hs hplain) ext_imp
end
end
end DL
set_option Elab.async false
set_option linter.all false
set_option maxRecDepth 100000
set_option maxHeartbeats 2000000
set_option autoImplicit false
namespace DL
open PySem PySem.Spec L2
open PyProof.Rows hiding St
/-! evaluation of mirrors -/
section
variable {α β : Type} {h h' : Hd} {S : DS}
theorem bd_ok {m : M α} {f : α → M β} {a : α} (e : m h = some (.ok a h')) : bd m f h = f a h' := by simp [bd, e]
@[simp] theorem bd_ret {f : α → M β} {a : α} : bd (ret a) f = f a := rfl
@[simp] theorem ret_ok {a : α} : ret a h = some (.ok a h) := rfl
@[simp] theorem opt_some {a : α} : opt (some a) = ret a := rfl
@[simp] theorem rd_t {d : PyData} : rd (.t d) = ret d := rfl
@[simp] theorem rdw_t {d : PyData} : rdw (.t d) = ret d := rfl
@[simp] theorem rdw_s {ns : List Int} : rdw (.s ns) = ret (.list (ns.map .int)) := rfl
@[simp] theorem fz_t {d : PyData} : fz (.t d) = ret d := rfl
@[simp] theorem eC_eq {d : D} : eC d S = ret d := rfl
@[simp] theorem rds_nil : rds [] = ret [] := rfl
@[simp] theorem rds_cons {d : PyData} {ds : List D} : rds (.t d :: ds) = bd (rds ds) fun xs => ret (d :: xs) := rfl
@[simp] theorem rdws_nil : rdws [] = ret [] := rfl
@[simp] theorem rdws_cons {d : PyData} {ds : List D} : rdws (.t d :: ds) = bd (rdws ds) fun xs => ret (d :: xs) := rfl
@[simp] theorem fzs_nil : fzs [] = ret [] := rfl
@[simp] theorem fzs_cons {d : PyData} {ds : List D} : fzs (.t d :: ds) = bd (fzs ds) fun xs => ret (d :: xs) := rfl
@[simp] theorem aNil_eq : aNil S = ret [] := rfl
@[simp] theorem tYes_eq : tYesD S = ret true := rfl
@[simp] theorem mk_f {ds : List PyData} : mk false ds = ret (.t (.list ds)) := rfl
theorem eVar_at {i : Nat} {d : D} (e : S[i]? = some (some d)) : eVar i S = ret d := by simp [eVar, e]
theorem sB_ok {m : DS → M α} {k : α → SM} {a : α} (e : m S h = some (.ok a h')) : sB m k S h = k a S h' := by simp [sB, e]
theorem sSeq_nx {a b : SM} {S' : DS} (e : a S h = some (.nx, S', h')) : sSeq a b S h = b S' h' := by simp [sSeq, e]
theorem sSeq_rt {a b : SM} {S' : DS} {d : D} (e : a S h = some (.rt d, S', h')) : sSeq a b S h = some (.rt d, S', h') := by simp [sSeq, e]
/-- one item of a list comprehension -/
def lcE (f : PyData → DS → Option DS) (t : DS → M Bool) (e : DS → M D) (own : List Nat) (S : DS) (d : PyData) : M (Option PyData) := match f d (wipeD S own) with
  | none => fail
  | some S1 => bd (t S1) fun b => match b with
    | true => bd (e S1) fun y => bd (fz y) fun z => ret (some z)
    | false => ret none
theorem set_end {x y : Cell} : ∀ {l : Hd}, (l ++ [x]).set l.length y = l ++ [y] := by
  intro l; induction l <;> simp_all
theorem lcL_step {f : PyData → DS → Option DS} {t : DS → M Bool} {e : DS → M D} {own : List Nat} {d : PyData} {ds acc : List PyData} {o : Option PyData} (he : lcE f t e own S d h = some (.ok o (h' ++ [.lst acc]))) (ha : acc.length < sizeLine) :
    lcL f t e own S h'.length (d :: ds) h = lcL f t e own S h'.length ds (h' ++ [.lst (acc ++ o.toList)]) := by
  unfold lcE at he
  conv => lhs; unfold lcL
  cases e1 : f d (wipeD S own) with
  | none => simp [e1, fail] at he
  | some S1 =>
    simp only [e1] at he ⊢
    cases e2 : t S1 h with
    | none => simp [bd, e2] at he
    | some r => cases r with
      | err c p h2 => simp [bd, e2] at he
      | ok b h2 =>
        rw [bd_ok e2] at he ⊢
        cases b with
        | false => simp at he; obtain ⟨rfl, rfl⟩ := he; simp
        | true =>
          simp only at he ⊢
          cases e3 : e S1 h2 with
          | none => simp [bd, e3] at he
          | some r => cases r with
            | err c p h3 => simp [bd, e3] at he
            | ok y h3 =>
              rw [bd_ok e3] at he ⊢
              cases e4 : fz y h3 with
              | none => simp [bd, e4] at he
              | some r => cases r with
                | err c p h4 => simp [bd, e4] at he
                | ok z h4 =>
                  rw [bd_ok e4] at he ⊢
                  simp at he
                  obtain ⟨rfl, rfl⟩ := he
                  simp [bd, getC, setC, ha, set_end]
theorem lcL_pure {γ : Type} {f : PyData → DS → Option DS} {t : DS → M Bool} {e : DS → M D} {own : List Nat} {enc : γ → PyData} {φ : γ → Option PyData} : ∀ (xs : List γ) (acc : List PyData), acc.length + xs.length ≤ sizeLine → (∀ x ∈ xs, ∀ acc, lcE f t e own S (enc x) (h ++ [.lst acc]) = some (.ok (φ x) (h ++ [.lst acc]))) →
    lcL f t e own S h.length (xs.map enc) (h ++ [.lst acc]) = some (.ok () (h ++ [.lst (acc ++ xs.filterMap φ)]))
  | [], acc, _, _ => by simp [lcL]
  | x :: xs, acc, hl, hs => by
    rw [List.map_cons, lcL_step (hs x (by simp) acc) (by simp at hl; omega), lcL_pure xs _ (by cases φ x <;> simp at hl ⊢ <;> omega) (fun y hy => hs y (by simp [hy]))]
    cases e : φ x <;> simp [e]
theorem lc_pure {γ : Type} {m : DS → M (List PyData)} {f : PyData → DS → Option DS} {t : DS → M Bool} {e : DS → M D} {own : List Nat} {xs : List γ} {enc : γ → PyData} (φ : γ → Option PyData) (hm : m S h = some (.ok (xs.map enc) h)) (hl : xs.length ≤ sizeLine) (hs : ∀ x ∈ xs, ∀ acc, lcE f t e own S (enc x) (h ++ [.lst acc]) = some (.ok (φ x) (h ++ [.lst acc]))) :
    dLc false m f t e own S h = some (.ok (.t (.list (xs.filterMap φ))) h) := by
  unfold dLc
  rw [bd_ok hm]
  unfold lcRun
  rw [lcL_pure xs [] (by simpa using hl) hs]
  simp [lcFin]
/-- ranges -/
theorem lc_rng {m : DS → M (List PyData)} {f : PyData → DS → Option DS} {t : DS → M Bool} {e : DS → M D} {own : List Nat} {lo : Int} {n : Nat} (φ : Nat → Option PyData) (hm : m S h = some (.ok (rngD lo n) h)) (hl : n ≤ sizeLine) (hs : ∀ i, i < n → ∀ acc, lcE f t e own S (.int (lo + (i : Int))) (h ++ [.lst acc]) = some (.ok (φ i) (h ++ [.lst acc]))) :
    dLc false m f t e own S h = some (.ok (.t (.list ((List.range n).filterMap φ))) h) :=
  lc_pure (enc := fun i : Nat => .int (lo + (i : Int))) φ hm (by simpa using hl) fun i hi => hs i (by simpa using hi)
theorem lc_rngM {m : DS → M (List PyData)} {f : PyData → DS → Option DS} {t : DS → M Bool} {e : DS → M D} {own : List Nat} {lo : Int} {n : Nat} (φ : Nat → PyData) (hm : m S h = some (.ok (rngD lo n) h)) (hl : n ≤ sizeLine) (hs : ∀ i, i < n → ∀ acc, lcE f t e own S (.int (lo + (i : Int))) (h ++ [.lst acc]) = some (.ok (some (φ i)) (h ++ [.lst acc]))) :
    dLc false m f t e own S h = some (.ok (.t (.list ((List.range n).map φ))) h) := by
  rw [lc_rng (fun i => some (φ i)) hm hl hs]
  simp [List.filterMap_eq_map]
/-- a walk that changes things -/
theorem lcL_inv {f : PyData → DS → Option DS} {t : DS → M Bool} {e : DS → M D} {own : List Nat} {I : Nat → Hd → Prop} {G : PyData → Prop} {k N : Nat} : ∀ (xs : List PyData) (i : Nat) (h : Hd) (acc : List PyData), i + xs.length ≤ N → h.length = k → acc.length + xs.length ≤ sizeLine → I i h → (∀ x ∈ acc, G x) → (∀ x ∈ xs, ∀ i h acc, i < N → h.length = k → I i h → ∃ y h', lcE f t e own S x (h ++ [.lst acc]) = some (.ok (some y) (h' ++ [.lst acc])) ∧ G y ∧ I (i + 1) h' ∧ h'.length = k) →
    ∃ ys h', lcL f t e own S k xs (h ++ [.lst acc]) = some (.ok () (h' ++ [.lst ys])) ∧ ys.length = acc.length + xs.length ∧ (∀ y ∈ ys, G y) ∧ I (i + xs.length) h' ∧ h'.length = k
  | [], i, h, acc, _, hk, _, hi, hg, _ => ⟨acc, h, by simp [lcL], by simp, hg, hi, hk⟩
  | x :: xs, i, h, acc, hN, hk, hl, hi, hg, hs => by
    have hN' : i + (xs.length + 1) ≤ N := by simpa using hN
    obtain ⟨y, h1, e1, g1, i1, k1⟩ := hs x (by simp) i h acc (by omega) hk hi
    have hl' : acc.length + (xs.length + 1) ≤ sizeLine := by simpa using hl
    obtain ⟨ys, h2, e2, l2, g2, i2, k2⟩ := lcL_inv xs (i + 1) h1 (acc ++ [y]) (by omega) k1 (by simp; omega) i1 (by intro z hz; rcases List.mem_append.mp hz with q | q; exact hg z q; rw [List.mem_singleton] at q; exact q ▸ g1) (fun z hz => hs z (by simp [hz]))
    refine ⟨ys, h2, ?_, by simp at l2 ⊢; omega, g2, by rw [List.length_cons, ← Nat.add_assoc, Nat.add_right_comm]; exact i2, k2⟩
    rw [← k1, lcL_step e1 (by omega), k1]
    exact e2
theorem lc_inv {m : DS → M (List PyData)} {f : PyData → DS → Option DS} {t : DS → M Bool} {e : DS → M D} {own : List Nat} {xs : List PyData} (I : Nat → Hd → Prop) (G : PyData → Prop) (hm : m S h = some (.ok xs h')) (hl : xs.length ≤ sizeLine) (hi : I 0 h') (hs : ∀ x ∈ xs, ∀ i h1 acc, i < xs.length → h1.length = h'.length → I i h1 → ∃ y h2, lcE f t e own S x (h1 ++ [.lst acc]) = some (.ok (some y) (h2 ++ [.lst acc])) ∧ G y ∧ I (i + 1) h2 ∧ h2.length = h'.length) :
    ∃ ys h2, dLc false m f t e own S h = some (.ok (.t (.list ys)) h2) ∧ ys.length = xs.length ∧ (∀ y ∈ ys, G y) ∧ I xs.length h2 ∧ h2.length = h'.length := by
  obtain ⟨ys, h2, e2, l2, g2, i2, k2⟩ := lcL_inv (I := I) (G := G) (N := xs.length) xs 0 h' [] (by omega) rfl (by simpa using hl) hi (by simp) hs
  refine ⟨ys, h2, ?_, by simpa using l2, g2, by simpa using i2, k2⟩
  unfold dLc
  rw [bd_ok hm]
  unfold lcRun
  rw [e2]
  simp [lcFin, ← k2]
theorem bools_m {γ : Type} (l : List γ) (p : γ → Bool) : boolsP (l.map fun x => .bool (p x)) = some (l.map p) := by
  induction l <;> simp_all [boolsP]
theorem all_map {γ : Type} (l : List γ) (p : γ → Bool) : allP [.list (l.map fun x => .bool (p x))] = some (.bool (l.all p)) := by
  show (boolsP (l.map fun x => .bool (p x))).map (fun bs => PyData.bool (bs.all id)) = _
  rw [bools_m, Option.map_some, List.all_map]
  rfl
theorem any_map {γ : Type} (l : List γ) (p : γ → Bool) : anyP [.list (l.map fun x => .bool (p x))] = some (.bool (l.any p)) := by
  show (boolsP (l.map fun x => .bool (p x))).map (fun bs => PyData.bool (bs.any id)) = _
  rw [bools_m, Option.map_some, List.any_map]
  rfl
end
/-! the mirrors, opened -/
section
variable {α β : Type} {h : Hd} {S : DS} {i j n : Nat} {c : Bool} {ma mb mc : DS → M D} {ms ks : DS → M (List D)} {t tb : DS → M Bool} {a b : SM} {g g' : PyData → PyData → Option PyData} {gl : List PyData → Option PyData} {gn : List PyData → Option (List PyData)} {gu : PyData → Option PyData} {F : List D → M D}
@[simp] theorem x_bd {m : M α} {f : α → M β} : bd m f h = match m h with
  | some (.ok a h') => f a h'
  | some (.err c p h') => some (.err c p h')
  | none => none := rfl
@[simp] theorem x_eVar : eVar i S = match S[i]? with
  | some (some d) => ret d
  | _ => fail := rfl
@[simp] theorem x_aCons : aCons ma ms S = bd (ma S) fun d => bd (ms S) fun ds => ret (d :: ds) := rfl
@[simp] theorem x_dBin : dBin g ma mb S = bd (ma S) fun a => bd (mb S) fun b => bd (rd a) fun x => bd (rd b) fun y => bd (opt (g x y)) fun z => ret (.t z) := rfl
@[simp] theorem x_dIx : dIx g ma mb S = bd (ma S) fun a => bd (mb S) fun b => bd (rdw a) fun x => bd (rdw b) fun y => bd (opt (g x y)) fun z => ret (.t z) := rfl
@[simp] theorem x_dUn : dUn gu ma S = bd (ma S) fun a => bd (rd a) fun x => bd (opt (gu x)) fun z => ret (.t z) := rfl
@[simp] theorem x_dCW : dCW gl ms S = bd (ms S) fun ds => bd (rdws ds) fun xs => bd (opt (gl xs)) fun z => ret (.t z) := rfl
@[simp] theorem x_dCB : dCB gl ms S = bd (ms S) fun ds => bd (rds ds) fun xs => bd (opt (gl xs)) fun z => ret (.t z) := rfl
@[simp] theorem x_dCN : dCN c gn ms S = bd (ms S) fun ds => bd (rdws ds) fun xs => bd (opt (gn xs)) fun z => mk c z := rfl
@[simp] theorem x_dLst : dLst c ms S = bd (ms S) fun ds => bd (fzs ds) fun xs => if xs.length ≤ sizeLine then mk c xs else fail := rfl
@[simp] theorem x_dTup : dTup ms S = bd (ms S) fun ds => bd (fzs ds) fun xs => if xs.length ≤ sizeLine then ret (.t (.tuple xs)) else fail := rfl
@[simp] theorem x_tAnd : tAndD t tb S = bd (t S) fun c => match c with
  | true => tb S
  | false => ret false := rfl
@[simp] theorem x_tOr : tOrD t tb S = bd (t S) fun c => match c with
  | true => ret true
  | false => tb S := rfl
@[simp] theorem x_tNot : tNotD t S = bd (t S) fun c => ret (!c) := rfl
@[simp] theorem x_dTru : dTru ma S = bd (ma S) fun d => bd (rd d) fun x => opt (truP x) := rfl
@[simp] theorem x_dTest : dTest ma S = bd (ma S) fun d => match d with
  | .t (.bool b) => ret b
  | _ => fail := rfl
@[simp] theorem x_dIf : dIf t ma mb S = bd (t S) fun c => match c with
  | true => ma S
  | false => mb S := rfl
@[simp] theorem x_dAnd : dAnd ma mb S = bd (ma S) fun a => match a with
  | .t (.bool true) => mb S
  | .t (.bool false) => ret (.t (.bool false))
  | _ => fail := rfl
@[simp] theorem x_dOr : dOr ma mb S = bd (ma S) fun a => match a with
  | .t (.bool true) => ret (.t (.bool true))
  | .t (.bool false) => mb S
  | _ => fail := rfl
@[simp] theorem x_dNot : dNot ma S = bd (ma S) fun a => match a with
  | .t (.bool b) => ret (.t (.bool (!b)))
  | _ => fail := rfl
@[simp] theorem x_dChain : dChain g g' ma mb mc S = bd (ma S) fun a => bd (mb S) fun b => bd (rd a) fun x => bd (rd b) fun y => bd (opt (g x y)) fun z => match z with
  | .bool true => bd (mc S) fun c => bd (rd b) fun y' => bd (rd c) fun w => bd (opt (g' y' w)) fun u => ret (.t u)
  | .bool false => ret (.t (.bool false))
  | _ => fail := rfl
@[simp] theorem x_dCall : dCall F ms S = bd (ms S) F := rfl
@[simp] theorem x_dCallK {g : List D → List D → List D} : dCallK F g ms ks S = bd (ms S) fun a => bd (ks S) fun b => F (g a b) := rfl
@[simp] theorem x_oNone : oNone S = ret none := rfl
@[simp] theorem x_oSome : oSome ma S = bd (ma S) fun d => match d with
  | .t (.int i) => ret (some i)
  | _ => fail := rfl
@[simp] theorem x_dSl {ml mh : DS → M (Option Int)} : dSl c ma ml mh S = bd (ma S) fun a => bd (ml S) fun lo => bd (mh S) fun hi => bd (rdw a) fun x => slM c x lo hi := rfl
@[simp] theorem x_dRev : dRev c ma S = bd (ma S) fun a => bd (rdw a) fun x => match x with
  | .list ds => mk c ds.reverse
  | _ => fail := rfl
@[simp] theorem x_dCat : dCat c ma mb S = bd (ma S) fun a => bd (mb S) fun b => bd (rd a) fun x => bd (rd b) fun y => match x, y with
  | .list xs, .list ys => if xs.length + ys.length ≤ sizeLine then mk c (xs ++ ys) else fail
  | _, _ => fail := rfl
@[simp] theorem x_dIsi {T : String} : dIsi T ma S = bd (ma S) fun a => bd (rd a) fun x => ret (.t (.bool (isiB T x))) := rfl
@[simp] theorem x_dM {T : String} {gm : PyData → List PyData → Option PyData} : dM T gm ma ms S = bd (ma S) fun o => bd (rdw o) fun x0 => if tykP T x0 then bd (ms S) fun ds => bd (rdw o) fun x => bd (rdws ds) fun xs => bd (opt (gm x xs)) fun z => ret (.t z) else fail := rfl
@[simp] theorem x_sB {m : DS → M α} {k : α → SM} : sB m k S h = match m S h with
  | some (.ok a h') => k a S h'
  | some (.err c p h') => some (.er c p, S, h')
  | none => none := rfl
@[simp] theorem x_sSeq : sSeq a b S h = match a S h with
  | some (.nx, S', h') => b S' h'
  | x => x := rfl
@[simp] theorem x_sNext : sNext S h = some (.nx, S, h) := rfl
@[simp] theorem x_sRet : sRet ma S h = sB ma (fun d S h => some (.rt d, S, h)) S h := rfl
@[simp] theorem x_sRetN : sRetN S h = some (.rt (.t .none), S, h) := rfl
@[simp] theorem x_sDrop : sDrop ma S h = sB ma (fun _ S h => some (.nx, S, h)) S h := rfl
@[simp] theorem x_sIf : sIf t a b S h = sB t (fun c => match c with
  | true => a
  | false => b) S h := rfl
@[simp] theorem x_sSet : sSet i ma S h = sB ma (fun d S h => some (.nx, S.set i (some d), h)) S h := rfl
@[simp] theorem x_sPar : sPar i j ms S h = sB ms (fun ds S h => match ds with
  | [a, b] => some (.nx, (S.set i (some a)).set j (some b), h)
  | _ => none) S h := rfl
@[simp] theorem x_runF {gg : SM} {ds : List D} : runF c n gg ds h = (gg (startD n ds) h).bind (finD c h.length) := rfl
@[simp] theorem x_startD {ds : List D} : startD n ds = ds.map some ++ List.replicate (n - ds.length) none := rfl
@[simp] theorem x_opt {o : Option α} : opt o h = match o with
  | some a => some (.ok a h)
  | none => none := rfl
@[simp] theorem x_rg1 : iRg1 ms S = bd (ms S) fun ds => match ds with
  | [.t (.int j)] => if inR j then ret (rngD 0 j.toNat) else fail
  | _ => fail := rfl
@[simp] theorem x_rg2 : iRg2 ms S = bd (ms S) fun ds => match ds with
  | [.t (.int i), .t (.int j)] => if inR i && inR j then ret (rngD i (j - i).toNat) else fail
  | _ => fail := rfl
@[simp] theorem x_wipe0 : wipeD S [] = S := rfl
@[simp] theorem x_wipe {v : Nat} {vs : List Nat} : wipeD S (v :: vs) = (wipeD S vs).set v none := rfl
@[simp] theorem x_gN {d : PyData} : gN i d S = some (S.set i (some (.t d))) := rfl
@[simp] theorem x_lcE {f : PyData → DS → Option DS} {t : DS → M Bool} {e : DS → M D} {own : List Nat} {d : PyData} : lcE f t e own S d h = (match f d (wipeD S own) with
  | none => fail
  | some S1 => bd (t S1) fun b => match b with
    | true => bd (e S1) fun y => bd (fz y) fun z => ret (some z)
    | false => ret none) h := rfl
@[simp] theorem x_sFor {m : DS → M (List PyData)} {f : PyData → DS → Option DS} : sFor m f b S h = sB m (fun its => forL f b its) S h := rfl
@[simp] theorem x_fin_rt {d : D} : finD c n (.rt d, S, h) = (outD c n h d).map fun d => .ok d.1 d.2 := rfl
@[simp] theorem x_fin_nx : finD c n (.nx, S, h) = some (.ok (.t .none) (h.take n)) := rfl
@[simp] theorem x_out_t {d : PyData} : outD c n h (.t d) = some (.t d, h.take n) := rfl
@[simp] theorem x_tupP {ds : List PyData} : tupP [.list ds] = some (.tuple ds) := rfl
@[simp] theorem x_isi {T : String} {d : PyData} : isiB T d = (tyP d == T || (T == "int" && tyP d == "bool")) := rfl
@[simp] theorem x_ty1 : tyP .none = "NoneType" := rfl
@[simp] theorem x_ty2 {b : Bool} : tyP (.bool b) = "bool" := rfl
@[simp] theorem x_ty3 {b : Int} : tyP (.int b) = "int" := rfl
@[simp] theorem x_ty4 {b : Str} : tyP (.str b) = "str" := rfl
@[simp] theorem x_ty5 {b : List PyData} : tyP (.list b) = "list" := rfl
@[simp] theorem x_ty6 {b : List PyData} : tyP (.tuple b) = "tuple" := rfl
@[simp] theorem x_ty7 {b : List (PyData × PyData)} : tyP (.dict b) = "dict" := rfl
@[simp] theorem x_sl : sizeLine = 16777216 := rfl
theorem x_inR {i : Int} : DL.inR i = decide (-4611686018427387904 ≤ i ∧ i < 4611686018427387904) := rfl
theorem rg1_h {j : Int} {n : Nat} {h : Hd} (e : j.toNat = n) (l : -4611686018427387904 ≤ j) (u : j < 4611686018427387904) : (if -4611686018427387904 ≤ j ∧ j < 4611686018427387904 then ret (rngD 0 j.toNat) else fail) h = some (.ok (rngD 0 n) h) := by
  rw [if_pos ⟨l, u⟩, e]; rfl
@[simp] theorem mk_t {ds : List PyData} {h : Hd} : mk true ds h = some (.ok (.c h.length) (h ++ [.lst ds])) := rfl
@[simp] theorem x_dRep : dRep c ma mb S = bd (ma S) fun a => bd (mb S) fun b => bd (rd a) fun x => bd (rd b) fun y => match x, y with
  | .list xs, .int n => if okI n && decide (xs.length * n.toNat ≤ sizeLine) then mk c (List.replicate n.toNat xs).flatten else fail
  | _, _ => fail := rfl
theorem x_okI {i : Int} : okI i = decide (-9223372036854775808 ≤ i ∧ i < 9223372036854775808) := rfl
@[simp] theorem x_sSub {mo mi me : DS → M D} : sSub mo mi me S h = sB me (fun d => sB (fun _ => fz d) fun z => sB mo fun o => sB mi fun i => sB (fun _ => stIx o i z) fun _ S h => some (.nx, S, h)) S h := rfl
@[simp] theorem x_out_c {ds : List PyData} {h : Hd} : outD false h.length (h ++ [.lst ds]) (.c h.length) = some (.t (.list ds), h) := by simp [outD]
theorem x_out_cc {ds : List PyData} {h : Hd} : outD true h.length (h ++ [.lst ds]) (.c h.length) = some (.c h.length, h ++ [.lst ds]) := by simp [outD]
@[simp] theorem x_getC {ds : List PyData} {h : Hd} : getC h.length (h ++ [.lst ds]) = some (.ok ds (h ++ [.lst ds])) := by simp [getC]
@[simp] theorem x_setC {ds es : List PyData} {h : Hd} : setC h.length es (h ++ [.lst ds]) = some (.ok () (h ++ [.lst es])) := by simp [setC]
theorem stIx_at {ds : List PyData} {h : Hd} {n j : Nat} {z : PyData} (hn : h[n]? = some (.lst ds)) (hj : j < ds.length) : stIx (.c n) (.t (.int (j : Nat))) z h = some (.ok () (h.set n (.lst (ds.set j z)))) := by
  have h' : (j : Int) < ds.length := by omega
  simp [stIx, bd, getC, hn, ixN, h', setC]
theorem stIx_end {ds : List PyData} {h : Hd} {j : Nat} {z : PyData} (hj : j < ds.length) : stIx (.c h.length) (.t (.int (j : Nat))) z (h ++ [.lst ds]) = some (.ok () (h ++ [.lst (ds.set j z)])) := by
  rw [stIx_at (ds := ds) (by simp) hj, set_end]
@[simp high] theorem inR_nat {k : Nat} : DL.inR (k : Int) = decide (k < 4611686018427387904) := by
  unfold DL.inR
  rw [decide_eq_decide]
  constructor <;> intro h <;> omega
@[simp high] theorem inR_nat1 {k : Nat} : DL.inR ((k : Int) + 1) = decide (k < 4611686018427387903) := by
  unfold DL.inR
  rw [decide_eq_decide]
  constructor <;> intro h <;> omega
@[simp high] theorem okI_nat {k : Nat} : okI (k : Int) = decide (k < 9223372036854775808) := by
  unfold okI
  rw [decide_eq_decide]
  constructor <;> intro h <;> omega
theorem rg2_h {i j : Int} {n : Nat} {h : Hd} (e : (j - i).toNat = n) (l1 : -4611686018427387904 ≤ i) (u1 : i < 4611686018427387904) (l : -4611686018427387904 ≤ j) (u : j < 4611686018427387904) : (if (-4611686018427387904 ≤ i ∧ i < 4611686018427387904) ∧ -4611686018427387904 ≤ j ∧ j < 4611686018427387904 then ret (rngD i (j - i).toNat) else fail) h = some (.ok (rngD i n) h) := by
  rw [if_pos ⟨⟨l1, u1⟩, l, u⟩, e]; rfl
@[simp] theorem x_dApp {mo me : DS → M D} : dApp mo me S = bd (mo S) fun o => match o with
  | .c n => bd (getC n) fun _ => bd (me S) fun v => bd (fz v) fun z => bd (getC n) fun ds => if ds.length < sizeLine then bd (setC n (ds ++ [z])) fun _ => ret (.t .none) else fail
  | _ => fail := rfl
@[simp] theorem x_neg_i {i : Int} : negP (.int i) = some (.int (-i)) := rfl
@[simp] theorem x_add_l {a b : List PyData} : addP (.list a) (.list b) = if a.length + b.length ≤ sizeLine then some (.list (a ++ b)) else none := rfl
@[simp] theorem x_add_t {a b : List PyData} : addP (.tuple a) (.tuple b) = if a.length + b.length ≤ sizeLine then some (.tuple (a ++ b)) else none := rfl
@[simp] theorem x_mod_i {i j : Int} : modP (.int i) (.int j) = if 0 < j then some (.int (i % j)) else none := rfl
@[simp] theorem x_fdiv_i {i j : Int} : fdivP (.int i) (.int j) = if 0 < j ∧ j.natAbs.log2 < 9000 then some (.int (i / j)) else none := rfl
@[simp] theorem x_pow_i {i j : Int} : powP (.int i) (.int j) = if 0 ≤ j ∧ (Builtin.Int.intBits i : Int) * j ≤ 2 ^ 27 then some (.int (i ^ j.toNat)) else none := rfl
@[simp] theorem x_abs_i {i : Int} : absP [.int i] = some (.int (if i < 0 then -i else i)) := rfl
@[simp] theorem x_max_i {i j : Int} : maxP [.int i, .int j] = some (.int (if j > i then j else i)) := rfl
@[simp] theorem x_min_i {i j : Int} : minP [.int i, .int j] = some (.int (if j < i then j else i)) := rfl
@[simp] theorem x_tup_t {ds : List PyData} : tupP [.tuple ds] = some (.tuple ds) := rfl
theorem bin_at {h h1 h2 : Hd} {a b z : PyData} (ea : ma S h = some (.ok (.t a) h1)) (eb : mb S h1 = some (.ok (.t b) h2)) (e : g a b = some z) : dBin g ma mb S h = some (.ok (.t z) h2) := by
  simp [ea, eb, e]
@[simp] theorem x_tru1 : truP .none = some false := rfl
@[simp] theorem x_tru2 {b : Bool} : truP (.bool b) = some b := rfl
@[simp] theorem x_tru3 {i : Int} : truP (.int i) = some (i != 0) := rfl
@[simp] theorem x_tru4 {x : Str} : truP (.str x) = if x.length ≤ sizeLine then some ((x.length : Int) != 0) else none := rfl
@[simp] theorem x_tru5 {ds : List PyData} : truP (.list ds) = some (!ds.isEmpty) := rfl
@[simp] theorem x_tru6 {ds : List PyData} : truP (.tuple ds) = some (!ds.isEmpty) := rfl
@[simp] theorem x_len_l {ds : List PyData} : lenP [.list ds] = some (.int ds.length) := rfl
@[simp] theorem x_len_s {x : Str} : lenP [.str x] = if x.length ≤ sizeLine then some (.int x.length) else none := rfl
@[simp] theorem x_add_i {i j : Int} : addP (.int i) (.int j) = some (.int (i + j)) := rfl
@[simp] theorem x_add_s {a b : Str} : addP (.str a) (.str b) = if a.length + b.length ≤ sizeLine then some (.str (a ++ b)) else none := rfl
@[simp] theorem x_sub_i {i j : Int} : subP (.int i) (.int j) = some (.int (i - j)) := rfl
@[simp] theorem x_mul_i {i j : Int} : mulP (.int i) (.int j) = if i.natAbs.log2 + j.natAbs.log2 < 1000000 then some (.int (i * j)) else none := rfl
@[simp] theorem x_mul_s {x : Str} {n : Int} : mulP (.str x) (.int n) = if okI n && decide (x.length * n.toNat ≤ sizeLine) then some (.str (repS x n.toNat)) else none := rfl
@[simp] theorem x_lt_i {i j : Int} : ltP (.int i) (.int j) = some (.bool (decide (i < j))) := rfl
@[simp] theorem x_gt_i {i j : Int} : gtP (.int i) (.int j) = some (.bool (decide (j < i))) := rfl
@[simp] theorem x_le_i {i j : Int} : leP (.int i) (.int j) = some (.bool (decide (i ≤ j))) := rfl
@[simp] theorem x_ge_i {i j : Int} : geP (.int i) (.int j) = some (.bool (decide (j ≤ i))) := rfl
@[simp] theorem x_int_i {i : Int} : intP [.int i] = some (.int i) := rfl
@[simp] theorem x_int_b {b : Bool} : intP [.bool b] = some (.int (if b then 1 else 0)) := rfl
@[simp] theorem x_ix_l {ds : List PyData} {i : Int} : ixP (.list ds) (.int i) = atI ds i := rfl
@[simp] theorem x_ix_t {ds : List PyData} {i : Int} : ixP (.tuple ds) (.int i) = atI ds i := rfl
@[simp] theorem x_ix_s {x : Str} {i : Int} : ixP (.str x) (.int i) = if x.length ≤ sizeLine then (atI x.cps.toList i).map fun c => .str (tx [c]) else none := rfl
@[simp] theorem x_sl_s {z : Str} {lo hi : Option Int} : slM c (.str z) lo hi = if z.length ≤ sizeLine then ret (.t (.str (cutS z lo hi))) else fail := rfl
@[simp] theorem x_isb {a b : Bool} : isP (.bool a) (.bool b) = some (.bool (decide (a = b))) := rfl
@[simp] theorem x_isnb {a b : Bool} : isNotP (.bool a) (.bool b) = some (.bool (!decide (a = b))) := rfl
end
end DL
set_option Elab.async false
set_option linter.all false
set_option maxRecDepth 100000
set_option maxHeartbeats 2000000
set_option autoImplicit false
namespace DL
open PySem PySem.Spec L2
open PyProof.Rows hiding St
@[simp] theorem x_dRevA {c : Bool} {ma : DS → M D} {S : DS} : dRevA c ma S = bd (ma S) fun a => bd (rdw a) fun x => match x with
  | .list ds => mk c ds.reverse
  | .tuple ds => ret (.t (.tuple ds.reverse))
  | .str z => if z.length ≤ sizeLine then ret (.t (.str (tx z.cps.toList.reverse))) else fail
  | _ => fail := rfl
end DL
set_option Elab.async false
set_option linter.all false
set_option maxRecDepth 100000
set_option maxHeartbeats 2000000
set_option autoImplicit false
namespace DL
open PySem PySem.Spec L2
open PyProof.Rows hiding St
@[simp] theorem x_dExt {mo me : DS → M D} {S : DS} : dExt mo me S = bd (mo S) fun o => match o with
  | .c n => bd (getC n) fun _ => bd (me S) fun v => match v with
    | .t (.list zs) => bd (getC n) fun ds => if ds.length + zs.length ≤ sizeLine then bd (setC n (ds ++ zs)) fun _ => ret (.t .none) else fail
    | _ => fail
  | _ => fail := rfl
@[simp] theorem x_iEnuA {m : DS → M D} {S : DS} : iEnuA m S = bd (m S) fun d => match d with
  | .t (.list ds) => ret (enumD ds)
  | .t (.str x) => ret (enumD (signsP x))
  | _ => fail := rfl
@[simp] theorem x_iZipA {ms : DS → M (List D)} {S : DS} : DL.iZipA ms S = bd (ms S) zipMA := rfl
@[simp] theorem x_zipS {x y : Str} : zipMA [.t (.str x), .t (.str y)] = ret (zipD (signsP x) (signsP y)) := rfl
@[simp] theorem x_minR2 {i j : Int} : minR [.int i, .int j] = some (.int (if j < i then j else i)) := rfl
@[simp] theorem x_minR3 {i j k : Int} : minR [.int i, .int j, .int k] = some (.int (min3I i j k)) := rfl
theorem getC_at {n : Nat} {h : Hd} {ds : List PyData} (e : h[n]? = some (.lst ds)) : getC n h = some (.ok ds h) := by simp [getC, e]
theorem setC_at {n : Nat} {h : Hd} {ds es : List PyData} (e : h[n]? = some (.lst ds)) : setC n es h = some (.ok () (h.set n (.lst es))) := by simp [setC, e]
end DL
set_option Elab.async false
set_option linter.all false
set_option maxRecDepth 100000
set_option maxHeartbeats 2000000
set_option autoImplicit false
namespace LT
/-! the least turn of a row, in plain lists -/
def cc (w : List Nat) (x : Nat) : Nat := w.getD (x % w.length) 0
def rot (w : List Nat) (x : Nat) : List Nat := (List.range w.length).map fun t => cc w (x + t)
theorem rot_len (w : List Nat) (x : Nat) : (rot w x).length = w.length := by simp [rot]
theorem rot_get (w : List Nat) (x t : Nat) (h : t < (rot w x).length) : (rot w x)[t] = cc w (x + t) := by simp [rot]
theorem cc_mod (w : List Nat) (x : Nat) : cc w (x % w.length) = cc w x := by simp [cc]
theorem rot_mod (w : List Nat) (x : Nat) : rot w (x % w.length) = rot w x := by
  unfold rot
  apply List.map_congr_left
  intro t _
  simp [cc, Nat.add_mod]
/-- the first of the least turns -/
def Fst (w : List Nat) (m : Nat) : Prop := m < w.length ∧ (∀ x, x < w.length → ¬ rot w x < rot w m) ∧ ∀ x, x < m → rot w x ≠ rot w m
theorem rot_lt {w : List Nat} {i j k : Nat} (hk : k < w.length) (he : ∀ t, t < k → cc w (i + t) = cc w (j + t)) (hl : cc w (i + k) < cc w (j + k)) : rot w i < rot w j := by
  rw [List.lt_iff_exists]
  right
  refine ⟨k, by simp [rot, hk], by simp [rot, hk], fun t ht => ?_, ?_⟩
  · simp [rot, he t ht]
  · simp [rot, hl]
/-- the same ahead of it -/
theorem rot_lt_at {w : List Nat} {i j k t : Nat} (hk : k < w.length) (he : ∀ t, t < k → cc w (i + t) = cc w (j + t)) (hl : cc w (i + k) < cc w (j + k)) (ht : t ≤ k) : rot w (i + t) < rot w (j + t) := by
  refine rot_lt (k := k - t) (by omega) (fun s hs => ?_) ?_
  · have := he (t + s) (by omega)
    rwa [← Nat.add_assoc, ← Nat.add_assoc] at this
  · rwa [Nat.add_assoc, Nat.add_assoc, show t + (k - t) = k by omega]
theorem not_fst {w : List Nat} {m x : Nat} (h : Fst w m) (hl : rot w x < rot w m) : False := by
  have h0 : 0 < w.length := by have := h.1; omega
  exact h.2.1 (x % w.length) (Nat.mod_lt _ h0) (by rwa [rot_mod])
/-- what holds at each turn -/
def Iv (w : List Nat) (m i j k : Nat) : Prop := i < j ∧ (m = i ∨ j ≤ m) ∧ k ≤ w.length ∧ ∀ t, t < k → cc w (i + t) = cc w (j + t)
theorem iv_eq {w : List Nat} {m i j k : Nat} (h : Iv w m i j k) (hk : k < w.length) (e : cc w (i + k) = cc w (j + k)) : Iv w m i j (k + 1) :=
  ⟨h.1, h.2.1, hk, fun t ht => by
    by_cases q : t = k
    · exact q ▸ e
    · exact h.2.2.2 t (by omega)⟩
theorem iv_gt {w : List Nat} {m i j k : Nat} (f : Fst w m) (h : Iv w m i j k) (hk : k < w.length) (e : cc w (j + k) < cc w (i + k)) : Iv w m (max (i + k + 1) j) (max (i + k + 1) j + 1) 0 := by
  refine ⟨by omega, ?_, by omega, fun t ht => absurd ht (Nat.not_lt_zero _)⟩
  have key : ¬ (i ≤ m ∧ m ≤ i + k) := by
    rintro ⟨h1, h2⟩
    refine not_fst f (x := j + (m - i)) ?_
    have := rot_lt_at (t := m - i) hk (fun t ht => (h.2.2.2 t ht).symm) e (by omega)
    rwa [show i + (m - i) = m by omega] at this
  rcases h.2.1 with q | q
  · exact absurd ⟨by omega, by omega⟩ key
  · have := h.1
    by_cases r : m ≤ i + k
    · exact absurd ⟨by omega, r⟩ key
    · omega
theorem iv_lt {w : List Nat} {m i j k : Nat} (f : Fst w m) (h : Iv w m i j k) (hk : k < w.length) (e : cc w (i + k) < cc w (j + k)) : Iv w m i (j + k + 1) 0 := by
  refine ⟨by have := h.1; omega, ?_, by omega, fun t ht => absurd ht (Nat.not_lt_zero _)⟩
  have key : ¬ (j ≤ m ∧ m ≤ j + k) := by
    rintro ⟨h1, h2⟩
    refine not_fst f (x := i + (m - j)) ?_
    have := rot_lt_at (t := m - j) hk h.2.2.2 e (by omega)
    rwa [show j + (m - j) = m by omega] at this
  rcases h.2.1 with q | q
  · exact .inl q
  · right
    by_cases r : m ≤ j + k
    · exact absurd ⟨q, r⟩ key
    · omega
theorem iv_end {w : List Nat} {m i j k : Nat} (f : Fst w m) (h : Iv w m i j k) (e : ¬ (i < w.length ∧ j < w.length ∧ k < w.length)) : i = m := by
  have hm := f.1
  have hij := h.1
  rcases h.2.1 with q | q
  · exact q.symm
  · have hk : k = w.length := by have := h.2.2.1; omega
    -- the turns at i and j are one
    exfalso
    have all : ∀ t, cc w (i + t) = cc w (j + t) := fun t => by
      have h0 : 0 < w.length := by omega
      have h1 := h.2.2.2 (t % w.length) (by rw [hk]; exact Nat.mod_lt _ h0)
      have aux : ∀ x, cc w (x + t % w.length) = cc w (x + t) := fun x => by
        rw [← cc_mod w (x + t % w.length), ← cc_mod w (x + t)]
        congr 1
        simp [Nat.add_mod]
      rwa [aux, aux] at h1
    refine f.2.2 (m - (j - i)) (by omega) ?_
    unfold rot
    apply List.map_congr_left
    intro t _
    have := all (m - j + t)
    rw [show m - (j - i) + t = i + (m - j + t) by omega, this]
    congr 1
    omega
/-- there is a first of the least -/
theorem fst_ex (w : List Nat) (h : 0 < w.length) : ∃ m, Fst w m := by
  have aux : ∀ n, 0 < n → n ≤ w.length → ∃ m, m < n ∧ (∀ x, x < n → ¬ rot w x < rot w m) ∧ ∀ x, x < m → rot w x ≠ rot w m := by
    intro n
    induction n with
    | zero => intro h; omega
    | succ n ih =>
      intro _ hn
      by_cases h0 : n = 0
      · subst h0
        refine ⟨0, by omega, fun x hx => ?_, fun x hx => absurd hx (Nat.not_lt_zero _)⟩
        have : x = 0 := by omega
        subst this
        exact List.lt_irrefl _
      · obtain ⟨m, h1, h2, h3⟩ := ih (by omega) (by omega)
        by_cases q : rot w n < rot w m
        · refine ⟨n, by omega, fun x hx hl => ?_, fun x hx e => ?_⟩
          · by_cases e : x = n
            · subst e; exact List.lt_irrefl _ hl
            · exact h2 x (by omega) (List.lt_trans hl q)
          · exact h2 x hx (e ▸ q)
        · refine ⟨m, by omega, fun x hx => ?_, h3⟩
          by_cases e : x = n
          · exact e ▸ q
          · exact h2 x (by omega)
  obtain ⟨m, h1, h2, h3⟩ := aux w.length h (Nat.le_refl _)
  exact ⟨m, h1, h2, h3⟩
theorem fst_one {w : List Nat} {m m' : Nat} (a : Fst w m) (b : Fst w m') : m = m' := by
  have e : rot w m = rot w m' := by
    have h1 := a.2.1 m' b.1
    have h2 := b.2.1 m a.1
    exact List.le_antisymm (List.not_lt.mp h1) (List.not_lt.mp h2)
  rcases Nat.lt_trichotomy m m' with q | q | q
  · exact absurd e (b.2.2 m q)
  · exact q
  · exact absurd e.symm (a.2.2 m' q)
end LT
set_option Elab.async false
set_option linter.all false
set_option maxRecDepth 100000
set_option maxHeartbeats 2000000
set_option autoImplicit false
namespace LT
theorem cc_lt {w : List Nat} {x : Nat} (h : x < w.length) : cc w x = w[x] := by
  simp [cc, Nat.mod_eq_of_lt h, h]
theorem rot_eq {w : List Nat} {b : Nat} (h : b ≤ w.length) : rot w b = w.drop b ++ w.take b := by
  apply List.ext_getElem
  · simp [rot]; omega
  · intro i h1 h2
    rw [rot_get]
    have hi : i < w.length := by simpa [rot] using h1
    by_cases q : i < w.length - b
    · rw [List.getElem_append_left (by simp; omega), List.getElem_drop, cc_lt (by omega)]
    · rw [List.getElem_append_right (by simp; omega), List.getElem_take]
      have e : cc w (b + i) = cc w (b + i - w.length) := by
        rw [← cc_mod w (b + i), Nat.mod_eq_sub_mod (by omega), cc_mod]
      rw [e, cc_lt (by omega)]
      congr 1
      simp
      omega
theorem cc_rot {w : List Nat} (h : 0 < w.length) (a x : Nat) : cc (rot w a) x = cc w (a + x) := by
  have hx : x % (rot w a).length < (rot w a).length := Nat.mod_lt _ (by rw [rot_len]; exact h)
  have e : cc (rot w a) x = (rot w a)[x % (rot w a).length] := by simp [cc, hx]
  rw [e, rot_get, rot_len, ← cc_mod w (a + x % w.length), ← cc_mod w (a + x)]
  congr 1
  simp [Nat.add_mod]
theorem rot_rot {w : List Nat} (a b : Nat) : rot (rot w a) b = rot w (a + b) := by
  by_cases h : 0 < w.length
  · unfold rot
    rw [List.length_map, List.length_range]
    apply List.map_congr_left
    intro t _
    have := cc_rot h a (b + t)
    rw [← Nat.add_assoc] at this
    exact this
  · have : w = [] := List.eq_nil_of_length_eq_zero (by omega)
    subst this
    rfl
/-- the least turn itself -/
theorem least_all {w : List Nat} {m : Nat} (f : Fst w m) (x : Nat) : ¬ rot w x < rot w m := fun h => not_fst f h
theorem least_rot {w : List Nat} {a m m' : Nat} (f : Fst w m) (g : Fst (rot w a) m') : rot (rot w a) m' = rot w m := by
  have h0 : 0 < w.length := by have := f.1; omega
  have h1 : ¬ rot (rot w a) m' < rot w m := by
    rw [rot_rot]; exact least_all f _
  have h2 : ¬ rot w m < rot (rot w a) m' := by
    have := least_all g (m + a * (w.length - 1))
    rw [rot_rot] at this
    have e : rot w (a + (m + a * (w.length - 1))) = rot w m := by
      rw [← rot_mod w (a + _), ← rot_mod w m]
      congr 1
      have : a + (m + a * (w.length - 1)) = m + a * w.length := by
        obtain ⟨n, hn⟩ : ∃ n, w.length = n + 1 := ⟨w.length - 1, by omega⟩
        rw [hn, Nat.add_sub_cancel, Nat.mul_succ]
        omega
      rw [this, Nat.add_mul_mod_self_right]
    rwa [e] at this
  exact List.le_antisymm (List.not_lt.mp h2) (List.not_lt.mp h1)
/-! periods -/
def Per (w : List Nat) (d : Nat) : Prop := ∀ i, i + d < w.length → w.getD i 0 = w.getD (i + d) 0
def CPer (w : List Nat) (d : Nat) : Prop := ∀ x, cc w (x + d) = cc w x
theorem cper_mul {w : List Nat} {d : Nat} (h : CPer w d) : ∀ k x, cc w (x + k * d) = cc w x
  | 0, x => by simp
  | k + 1, x => by
    rw [Nat.succ_mul, ← Nat.add_assoc, h, cper_mul h k]
theorem cper_per {w : List Nat} {d : Nat} (h : CPer w d) : Per w d := fun i hi => by
  have := h i
  rw [cc_lt hi, cc_lt (by omega)] at this
  rw [List.getD_eq_getElem?_getD, List.getD_eq_getElem?_getD, List.getElem?_eq_getElem hi, List.getElem?_eq_getElem (show i < w.length by omega)]
  exact this.symm
theorem per_mul {w : List Nat} {d : Nat} (h : Per w d) : ∀ k i, i + k * d < w.length → w.getD i 0 = w.getD (i + k * d) 0
  | 0, i, _ => by simp
  | k + 1, i, hi => by
    rw [Nat.succ_mul, ← Nat.add_assoc] at hi ⊢
    rw [per_mul h k i (by omega), h _ hi]
theorem per_cper {w : List Nat} {d : Nat} (h : Per w d) (hd : d ∣ w.length) (h0 : 0 < w.length) : CPer w d := fun x => by
  obtain ⟨k, hk⟩ := hd
  have hd0 : 0 < d := by
    rcases Nat.eq_zero_or_pos d with q | q
    · subst q; rw [Nat.zero_mul] at hk; omega
    · exact q
  have hk0 : 0 < k := by
    rcases Nat.eq_zero_or_pos k with q | q
    · subst q; rw [Nat.mul_zero] at hk; omega
    · exact q
  have hy := Nat.mod_lt x h0
  have e1 : cc w (x + d) = cc w (x % w.length + d) := by
    rw [← cc_mod w (x + d), ← cc_mod w (x % w.length + d)]
    congr 1
    simp [Nat.add_mod]
  rw [e1, ← cc_mod w x]
  generalize x % w.length = y at hy
  have hdn : d ≤ w.length := by rw [hk]; exact Nat.le_mul_of_pos_right d hk0
  by_cases q : y + d < w.length
  · rw [cc_lt q, cc_lt hy]
    have := h y q
    rw [List.getD_eq_getElem?_getD, List.getD_eq_getElem?_getD, List.getElem?_eq_getElem q, List.getElem?_eq_getElem hy] at this
    exact this.symm
  · have e2 : cc w (y + d) = cc w (y + d - w.length) := by
      rw [← cc_mod w (y + d), Nat.mod_eq_sub_mod (by omega), cc_mod]
    have hz : y + d - w.length < w.length := by omega
    have e3 : y + d - w.length + (k - 1) * d = y := by
      have : (k - 1) * d + d = w.length := by
        rw [hk, Nat.mul_comm d k]
        obtain ⟨j, hj⟩ : ∃ j, k = j + 1 := ⟨k - 1, by omega⟩
        subst hj
        rw [Nat.add_sub_cancel, Nat.succ_mul]
      omega
    have := per_mul h (k - 1) (y + d - w.length) (by rw [e3]; exact hy)
    rw [e3] at this
    rw [e2, cc_lt hz, cc_lt hy]
    rw [List.getD_eq_getElem?_getD, List.getD_eq_getElem?_getD, List.getElem?_eq_getElem hz, List.getElem?_eq_getElem hy] at this
    exact this
/-- the least period around divides the length -/
theorem cper_least {w : List Nat} {d : Nat} (h0 : 0 < w.length) (hd : 0 < d) (h : CPer w d) : ∃ q, 0 < q ∧ q ≤ d ∧ q ∣ w.length ∧ CPer w q := by
  induction d using Nat.strongRecOn with
  | _ d ih =>
    by_cases hm : w.length % d = 0
    · exact ⟨d, hd, Nat.le_refl _, Nat.dvd_of_mod_eq_zero hm, h⟩
    · have hlt := Nat.mod_lt w.length hd
      have h2 : CPer w (w.length % d) := fun x => by
        have e1 : cc w (x + w.length % d + (w.length / d) * d) = cc w (x + w.length % d) := cper_mul h _ _
        have e2 : x + w.length % d + (w.length / d) * d = x + w.length := by
          have := Nat.mod_add_div w.length d
          rw [Nat.mul_comm] at this
          omega
        rw [e2] at e1
        rw [← e1]
        simp [cc]
      obtain ⟨q, a, b, c, e⟩ := ih _ hlt (by omega) h2
      exact ⟨q, a, by omega, c, e⟩
/-- two short periods: their difference is one -/
theorem per_sub {w : List Nat} {p q : Nat} (hp : Per w p) (hq : Per w q) (hpq : p ≤ q) (hl : p + q ≤ w.length) : Per w (q - p) := fun i hi => by
  by_cases h : i + q < w.length
  · rw [hq i h]
    have := hp (i + (q - p)) (by omega)
    rw [this]
    congr 1
    omega
  · -- i is far behind: go p back
    have hi2 : p ≤ i := by omega
    have a := hp (i - p) (by omega)
    rw [show i - p + p = i by omega] at a
    have b := hq (i - p) (by omega)
    rw [← a, b]
    congr 1
    omega
theorem per_gcd {w : List Nat} : ∀ (s p q : Nat), p + q ≤ s → 0 < p → 0 < q → Per w p → Per w q → p + q ≤ w.length → ∃ g, 0 < g ∧ g ∣ p ∧ g ∣ q ∧ Per w g
  | 0, p, q, h, h1, h2, _, _, _ => by omega
  | s + 1, p, q, h, h1, h2, hp, hq, hl => by
    rcases Nat.lt_trichotomy p q with c | c | c
    · obtain ⟨g, g0, gp, gq, gw⟩ := per_gcd s p (q - p) (by omega) h1 (by omega) hp (per_sub hp hq (by omega) hl) (by omega)
      refine ⟨g, g0, gp, ?_, gw⟩
      have := Nat.dvd_add gq gp
      rwa [Nat.sub_add_cancel (by omega)] at this
    · subst c
      exact ⟨p, h1, Nat.dvd_refl _, Nat.dvd_refl _, hp⟩
    · obtain ⟨g, g0, gp, gq, gw⟩ := per_gcd s (p - q) q (by omega) (by omega) h2 (per_sub hq hp (by omega) (by omega)) hq (by omega)
      refine ⟨g, g0, ?_, gq, gw⟩
      have := Nat.dvd_add gp gq
      rwa [Nat.sub_add_cancel (by omega)] at this
/-- the root's length -/
theorem root_is {w : List Nat} {p d : Nat} (hp : Per w p) (p0 : 0 < p) (pmin : ∀ q, 0 < q → Per w q → p ≤ q) (hd : Per w d) (d0 : 0 < d) (hdn : d ∣ w.length) (dlt : d < w.length) : p ∣ w.length := by
  have hpd := pmin d d0 hd
  obtain ⟨k, hk⟩ := hdn
  have h2 : 2 * d ≤ w.length := by
    rcases k with _ | _ | k
    · omega
    · omega
    · rw [hk, Nat.mul_comm d]; exact Nat.mul_le_mul_right d (by omega)
  obtain ⟨g, g0, gp, gd, gw⟩ := per_gcd (p + d) p d (Nat.le_refl _) p0 d0 hp hd (by omega)
  have h3 := pmin g g0 gw
  have h4 := Nat.le_of_dvd p0 gp
  have e : g = p := by omega
  subst e
  exact Nat.dvd_trans gd ⟨k, hk⟩
end LT
set_option Elab.async false
set_option linter.all false
set_option maxRecDepth 100000
set_option maxHeartbeats 2000000
set_option autoImplicit false
namespace ED
def cst (a b : Nat) : Nat := if a = b then 0 else 1
theorem cst_symm (a b : Nat) : cst a b = cst b a := by
  unfold cst
  by_cases h : a = b
  · rw [if_pos h, if_pos h.symm]
  · rw [if_neg h, if_neg (fun e => h e.symm)]
def eF : List Nat → List Nat → Nat
  | [], w => w.length
  | a :: p, [] => p.length + 1
  | a :: p, b :: w => min (min (eF p w + cst a b) (eF p (b :: w) + 1)) (eF (a :: p) w + 1)
termination_by p w => p.length + w.length
theorem eF_nil (w : List Nat) : eF [] w = w.length := by rw [eF]
theorem eF_nil2 : ∀ p : List Nat, eF p [] = p.length
  | [] => by rw [eF]
  | a :: p => by rw [eF]; rfl
theorem eF_cons (a b : Nat) (p w : List Nat) : eF (a :: p) (b :: w) = min (min (eF p w + cst a b) (eF p (b :: w) + 1)) (eF (a :: p) w + 1) := by rw [eF]
inductive Al : List Nat → List Nat → Nat → Prop
  | nil : Al [] [] 0
  | ins {b : Nat} {p w : List Nat} {n : Nat} : Al p w n → Al p (b :: w) (n + 1)
  | del {a : Nat} {p w : List Nat} {n : Nat} : Al p w n → Al (a :: p) w (n + 1)
  | sub {a b : Nat} {p w : List Nat} {n : Nat} : Al p w n → Al (a :: p) (b :: w) (n + cst a b)
theorem al_eF : ∀ p w : List Nat, Al p w (eF p w)
  | [], [] => by rw [eF_nil]; exact .nil
  | [], b :: w => by
    have := al_eF [] w
    rw [eF_nil] at this ⊢
    exact .ins this
  | a :: p, [] => by
    have := al_eF p []
    rw [eF_nil2] at this ⊢
    exact .del this
  | a :: p, b :: w => by
    have h1 := al_eF p w
    have h2 := al_eF p (b :: w)
    have h3 := al_eF (a :: p) w
    rw [eF_cons]
    have e : ∀ x y z : Nat, (min (min x y) z = x) ∨ (min (min x y) z = y) ∨ (min (min x y) z = z) := fun x y z => by omega
    rcases e (eF p w + cst a b) (eF p (b :: w) + 1) (eF (a :: p) w + 1) with q | q | q <;> rw [q]
    · exact .sub h1
    · exact .del h2
    · exact .ins h3
termination_by p w => p.length + w.length
theorem eF_le {p w : List Nat} {n : Nat} (h : Al p w n) : eF p w ≤ n := by
  induction h with
  | nil => rw [eF_nil]; exact Nat.le_refl _
  | @ins b p w n _ ih =>
    cases p with
    | nil => rw [eF_nil] at ih ⊢; simp; exact ih
    | cons a p => rw [eF_cons]; omega
  | @del a p w n _ ih =>
    cases w with
    | nil => rw [eF_nil2] at ih ⊢; simp; exact ih
    | cons b w => rw [eF_cons]; omega
  | @sub a b p w n _ ih => rw [eF_cons]; omega
theorem al_append {p w p' w' : List Nat} {n m : Nat} (h : Al p w n) (g : Al p' w' m) : Al (p ++ p') (w ++ w') (n + m) := by
  induction h with
  | nil => simpa using g
  | ins _ ih => rw [Nat.add_right_comm]; exact .ins ih
  | del _ ih => rw [Nat.add_right_comm]; exact .del ih
  | sub _ ih => rw [Nat.add_right_comm]; exact .sub ih
theorem al_rev {p w : List Nat} {n : Nat} (h : Al p w n) : Al p.reverse w.reverse n := by
  induction h with
  | nil => exact .nil
  | @ins b p w n _ ih =>
    rw [List.reverse_cons]
    have := al_append ih (.ins (b := b) .nil)
    simpa using this
  | @del a p w n _ ih =>
    rw [List.reverse_cons]
    have := al_append ih (.del (a := a) .nil)
    simpa using this
  | @sub a b p w n _ ih =>
    rw [List.reverse_cons, List.reverse_cons]
    have := al_append ih (.sub (a := a) (b := b) .nil)
    simpa using this
theorem al_symm {p w : List Nat} {n : Nat} (h : Al p w n) : Al w p n := by
  induction h with
  | nil => exact .nil
  | ins _ ih => exact .del ih
  | del _ ih => exact .ins ih
  | sub _ ih => rw [cst_symm]; exact .sub ih
theorem eF_rev (p w : List Nat) : eF p.reverse w.reverse = eF p w := by
  apply Nat.le_antisymm
  · exact eF_le (al_rev (al_eF p w))
  · have := al_rev (al_eF p.reverse w.reverse)
    rw [List.reverse_reverse, List.reverse_reverse] at this
    exact eF_le this
theorem eF_symm (p w : List Nat) : eF p w = eF w p := Nat.le_antisymm (eF_le (al_symm (al_eF w p))) (eF_le (al_symm (al_eF p w)))
theorem eF_snoc (p w : List Nat) (a b : Nat) : eF (p ++ [a]) (w ++ [b]) = min (min (eF p w + cst a b) (eF p (w ++ [b]) + 1)) (eF (p ++ [a]) w + 1) := by
  have h := eF_cons a b p.reverse w.reverse
  have e1 : a :: p.reverse = (p ++ [a]).reverse := by simp
  have e2 : b :: w.reverse = (w ++ [b]).reverse := by simp
  rw [e1, e2, eF_rev, eF_rev, eF_rev, eF_rev] at h
  exact h
theorem eF_up (p w : List Nat) (a : Nat) : eF (p ++ [a]) w ≤ eF p w + 1 := by
  have := al_append (al_eF p w) (.del (a := a) .nil)
  rw [List.append_nil] at this
  exact eF_le this
/-! the rows -/
def nxt (g : Nat → Nat) (p : List Nat) (c first : Nat) : Nat → Nat
  | 0 => first
  | i + 1 => min (min (g i + cst (p.getD i 0) c) (g (i + 1) + 1)) (nxt g p c first i + 1)
theorem take_snoc {p : List Nat} {i : Nat} (h : i < p.length) : p.take (i + 1) = p.take i ++ [p.getD i 0] := by
  rw [List.take_succ_eq_append_getElem h]
  simp [List.getD_eq_getElem?_getD, h]
theorem nxt_eF {g : Nat → Nat} {p u : List Nat} {c : Nat} (hg : ∀ i, i ≤ p.length → g i = eF (p.take i) u) : ∀ i, i ≤ p.length → nxt g p c (u.length + 1) i = eF (p.take i) (u ++ [c])
  | 0, _ => by
    rw [nxt, List.take_zero, eF_nil]; simp
  | i + 1, h => by
    rw [nxt, nxt_eF hg i (by omega), hg i (by omega), hg (i + 1) h, take_snoc (by omega), eF_snoc]
    omega
/-! the nearest end -/
def Sel (p w : List Nat) (v : Nat) : Prop := (∃ b, b ≤ w.length ∧ eF p (w.drop b) = v) ∧ ∀ b, b ≤ w.length → v ≤ eF p (w.drop b)
theorem sel_one {p w : List Nat} {v v' : Nat} (a : Sel p w v) (b : Sel p w v') : v = v' := by
  obtain ⟨⟨i, hi, e⟩, h⟩ := a
  obtain ⟨⟨j, hj, e'⟩, h'⟩ := b
  have := h j hj
  have := h' i hi
  omega
theorem sel_nil (w : List Nat) : Sel [] w 0 := ⟨⟨w.length, Nat.le_refl _, by rw [List.drop_length, eF_nil]; rfl⟩, fun _ _ => Nat.zero_le _⟩
theorem sel_nil2 (p : List Nat) : Sel p [] p.length := ⟨⟨0, Nat.le_refl _, by rw [List.drop_zero, eF_nil2]⟩, fun b _ => by rw [List.drop_nil, eF_nil2]; exact Nat.le_refl _⟩
theorem sel_snoc {p w : List Nat} {a c v1 v2 v3 : Nat} (h1 : Sel p w v1) (h2 : Sel p (w ++ [c]) v2) (h3 : Sel (p ++ [a]) w v3) : Sel (p ++ [a]) (w ++ [c]) (min (min (v1 + cst a c) (v2 + 1)) (v3 + 1)) := by
  have low : ∀ b, b ≤ (w ++ [c]).length → min (min (v1 + cst a c) (v2 + 1)) (v3 + 1) ≤ eF (p ++ [a]) ((w ++ [c]).drop b) := fun b hb => by
    by_cases q : b ≤ w.length
    · have e : (w ++ [c]).drop b = w.drop b ++ [c] := List.drop_append_of_le_length q
      have a1 := h1.2 b q
      have a2 := h2.2 b hb
      have a3 := h3.2 b q
      rw [e] at a2
      rw [e, eF_snoc]
      omega
    · have hb' : b = (w ++ [c]).length := by rw [List.length_append] at hb ⊢; simp at hb ⊢; omega
      have a2 := h2.2 b hb
      rw [hb', List.drop_length, eF_nil2] at a2 ⊢
      rw [List.length_append]
      simp
      omega
  refine ⟨?_, low⟩
  have ex : ∃ b, b ≤ (w ++ [c]).length ∧ eF (p ++ [a]) ((w ++ [c]).drop b) ≤ min (min (v1 + cst a c) (v2 + 1)) (v3 + 1) := by
    obtain ⟨⟨b1, l1, e1⟩, _⟩ := h1
    obtain ⟨⟨b2, l2, e2⟩, _⟩ := h2
    obtain ⟨⟨b3, l3, e3⟩, _⟩ := h3
    have hlen : (w ++ [c]).length = w.length + 1 := by simp
    have f1 : (w ++ [c]).drop b1 = w.drop b1 ++ [c] := List.drop_append_of_le_length l1
    have f3 : (w ++ [c]).drop b3 = w.drop b3 ++ [c] := List.drop_append_of_le_length l3
    have g1 : eF (p ++ [a]) ((w ++ [c]).drop b1) ≤ v1 + cst a c := by rw [f1, eF_snoc, e1]; omega
    have g3 : eF (p ++ [a]) ((w ++ [c]).drop b3) ≤ v3 + 1 := by rw [f3, eF_snoc, e3]; omega
    have g2 : eF (p ++ [a]) ((w ++ [c]).drop b2) ≤ v2 + 1 := by rw [← e2]; exact eF_up _ _ _
    by_cases q1 : v1 + cst a c ≤ v2 + 1 ∧ v1 + cst a c ≤ v3 + 1
    · exact ⟨b1, by omega, by omega⟩
    · by_cases q2 : v2 + 1 ≤ v3 + 1
      · exact ⟨b2, l2, by omega⟩
      · exact ⟨b3, by omega, by omega⟩
  obtain ⟨b, hb, e⟩ := ex
  exact ⟨b, hb, Nat.le_antisymm e (low b hb)⟩
theorem nxt_sel {g : Nat → Nat} {p u : List Nat} {c : Nat} (hg : ∀ i, i ≤ p.length → Sel (p.take i) u (g i)) : ∀ i, i ≤ p.length → Sel (p.take i) (u ++ [c]) (nxt g p c 0 i)
  | 0, _ => by
    rw [nxt, List.take_zero]; exact sel_nil _
  | i + 1, h => by
    have s1 := hg i (by omega)
    have s2 := nxt_sel hg (c := c) i (by omega)
    have s3 := hg (i + 1) h
    rw [take_snoc (by omega)] at s3 ⊢
    have := sel_snoc s1 s2 s3 (c := c)
    rw [nxt]
    rw [show min (min (g i + cst (p.getD i 0) c) (g (i + 1) + 1)) (nxt g p c 0 i + 1) = min (min (g i + cst (p.getD i 0) c) (nxt g p c 0 i + 1)) (g (i + 1) + 1) by omega]
    exact this
end ED
set_option Elab.async false
set_option linter.all false
set_option maxRecDepth 100000
set_option maxHeartbeats 4000000
namespace Lw
open PySem PySem.Spec L2 DL
open PyProof.Rows hiding St
def top (i : Nat) : Stmt := PySem.Challenge.pw_everyrowhasit_k65_whole_rows_nearly_in_o.main.body.getD i (.Pass ⟨0, 0, 0, 0⟩)
abbrev dd (x : Str) (i : Nat) : He.DefD := ⟨(x, none), x, x, defArgs (top i), defBody (top i), defScope (top i), [], []⟩
def fn : List He.DefD := [dd "is_integer" 9, dd "is_between" 10, dd "is_row_of" 11, dd "check_row" 13, dd "unlike_of" 16, dd "unlike" 17, dd "board_of" 18, dd "check_board" 19, dd "least_changes" 20, dd "last_line" 21, dd "nearly_at" 22, dd "nearest_in" 23, dd "_law_pot" 25, dd "_law_take" 26, dd "_law_of" 27, dd "_law_cells" 28, dd "_law_row" 29, dd "_law_least" 30, dd "_law_right" 31, dd "law" 32]
def fa : List He.Fa := [.glo "is_integer", .glo "is_between", .glo "is_row_of", .glo "check_row", .glo "unlike_of", .glo "unlike", .glo "board_of", .glo "check_board", .glo "least_changes", .glo "last_line", .glo "nearly_at", .glo "nearest_in", .glo "_law_pot", .glo "_law_take", .glo "_law_of", .glo "_law_cells", .glo "_law_row", .glo "_law_least", .glo "_law_right", .glo "law", .free "ValueError", .free "abs", .free "all", .free "bool", .free "enumerate", .free "int", .free "isinstance", .free "len", .free "list", .free "max", .free "min", .free "range", .free "repr", .free "str", .free "sum", .free "super", .free "tuple", .free "zip", .glo "RowError", .glo "BadMost", .glo "BadRow", .glo "TooLong", .glo "UnlikeLong", .str "LETTERS" "abcdefghijklmnopqrstuvwxyz", .int "MOST_ROW" 400, .int "MOST_BOARD" 60]
abbrev R : PySem.W.OpenRow := PySem.W.OpenLaw.row PySem.Challenge.rw_everyrowhasit_k65_whole_rows_nearly_in_o
abbrev hk : PySem.W.Hook := He.hookD 5 fa fn
def ob (s : PySem.W.SharedT) : He.AlD := He.obsDG 5 fa fn (HandSHeadRun.getT s)
theorem ob_eq (s : PySem.W.SharedT) : ob s = hk.obs s.abs := He.obsDG_eq (HandSHeadRun.getT_eq s)
def loose0 : List PySem.Str := [PySem.Str.ofString "__name__", PySem.Str.ofString "RowError", PySem.Str.ofString "BadMost", PySem.Str.ofString "BadRow", PySem.Str.ofString "TooLong", PySem.Str.ofString "UnlikeLong", PySem.Str.ofString "LETTERS", PySem.Str.ofString "MOST_ROW", PySem.Str.ofString "is_integer", PySem.Str.ofString "is_between", PySem.Str.ofString "is_row_of", PySem.Str.ofString "check_row", PySem.Str.ofString "MOST_BOARD", PySem.Str.ofString "unlike_of", PySem.Str.ofString "unlike", PySem.Str.ofString "board_of", PySem.Str.ofString "check_board", PySem.Str.ofString "least_changes", PySem.Str.ofString "last_line", PySem.Str.ofString "nearly_at", PySem.Str.ofString "nearest_in", PySem.Str.ofString "_law_pot", PySem.Str.ofString "_law_take", PySem.Str.ofString "_law_of", PySem.Str.ofString "_law_cells", PySem.Str.ofString "_law_row", PySem.Str.ofString "_law_least", PySem.Str.ofString "_law_right"]
def loose : List PySem.Str := loose0
section
variable {P : Program} {w : World} {K : PySem.W.Frag} {mg : Str → Option Value} {base : Heap} {fdf : Nat → FuncData}
theorem m_is_integer (T : Tx K mg fn fa fdf) : mg "is_integer" = some (.ref (He.ga K "is_integer")) := T.g 0 "is_integer" rfl
theorem m_is_between (T : Tx K mg fn fa fdf) : mg "is_between" = some (.ref (He.ga K "is_between")) := T.g 1 "is_between" rfl
theorem m_is_row_of (T : Tx K mg fn fa fdf) : mg "is_row_of" = some (.ref (He.ga K "is_row_of")) := T.g 2 "is_row_of" rfl
theorem m_check_row (T : Tx K mg fn fa fdf) : mg "check_row" = some (.ref (He.ga K "check_row")) := T.g 3 "check_row" rfl
theorem m_unlike_of (T : Tx K mg fn fa fdf) : mg "unlike_of" = some (.ref (He.ga K "unlike_of")) := T.g 4 "unlike_of" rfl
theorem m_unlike (T : Tx K mg fn fa fdf) : mg "unlike" = some (.ref (He.ga K "unlike")) := T.g 5 "unlike" rfl
theorem m_board_of (T : Tx K mg fn fa fdf) : mg "board_of" = some (.ref (He.ga K "board_of")) := T.g 6 "board_of" rfl
theorem m_check_board (T : Tx K mg fn fa fdf) : mg "check_board" = some (.ref (He.ga K "check_board")) := T.g 7 "check_board" rfl
theorem m_least_changes (T : Tx K mg fn fa fdf) : mg "least_changes" = some (.ref (He.ga K "least_changes")) := T.g 8 "least_changes" rfl
theorem m_last_line (T : Tx K mg fn fa fdf) : mg "last_line" = some (.ref (He.ga K "last_line")) := T.g 9 "last_line" rfl
theorem m_nearly_at (T : Tx K mg fn fa fdf) : mg "nearly_at" = some (.ref (He.ga K "nearly_at")) := T.g 10 "nearly_at" rfl
theorem m_nearest_in (T : Tx K mg fn fa fdf) : mg "nearest_in" = some (.ref (He.ga K "nearest_in")) := T.g 11 "nearest_in" rfl
theorem m__law_pot (T : Tx K mg fn fa fdf) : mg "_law_pot" = some (.ref (He.ga K "_law_pot")) := T.g 12 "_law_pot" rfl
theorem m__law_take (T : Tx K mg fn fa fdf) : mg "_law_take" = some (.ref (He.ga K "_law_take")) := T.g 13 "_law_take" rfl
theorem m__law_of (T : Tx K mg fn fa fdf) : mg "_law_of" = some (.ref (He.ga K "_law_of")) := T.g 14 "_law_of" rfl
theorem m__law_cells (T : Tx K mg fn fa fdf) : mg "_law_cells" = some (.ref (He.ga K "_law_cells")) := T.g 15 "_law_cells" rfl
theorem m__law_row (T : Tx K mg fn fa fdf) : mg "_law_row" = some (.ref (He.ga K "_law_row")) := T.g 16 "_law_row" rfl
theorem m__law_least (T : Tx K mg fn fa fdf) : mg "_law_least" = some (.ref (He.ga K "_law_least")) := T.g 17 "_law_least" rfl
theorem m__law_right (T : Tx K mg fn fa fdf) : mg "_law_right" = some (.ref (He.ga K "_law_right")) := T.g 18 "_law_right" rfl
theorem m_law (T : Tx K mg fn fa fdf) : mg "law" = some (.ref (He.ga K "law")) := T.g 19 "law" rfl
theorem m_ValueError (T : Tx K mg fn fa fdf) : mg "ValueError" = none := T.f 20 "ValueError" rfl
theorem m_abs (T : Tx K mg fn fa fdf) : mg "abs" = none := T.f 21 "abs" rfl
theorem m_all (T : Tx K mg fn fa fdf) : mg "all" = none := T.f 22 "all" rfl
theorem m_bool (T : Tx K mg fn fa fdf) : mg "bool" = none := T.f 23 "bool" rfl
theorem m_enumerate (T : Tx K mg fn fa fdf) : mg "enumerate" = none := T.f 24 "enumerate" rfl
theorem m_int (T : Tx K mg fn fa fdf) : mg "int" = none := T.f 25 "int" rfl
theorem m_isinstance (T : Tx K mg fn fa fdf) : mg "isinstance" = none := T.f 26 "isinstance" rfl
theorem m_len (T : Tx K mg fn fa fdf) : mg "len" = none := T.f 27 "len" rfl
theorem m_list (T : Tx K mg fn fa fdf) : mg "list" = none := T.f 28 "list" rfl
theorem m_max (T : Tx K mg fn fa fdf) : mg "max" = none := T.f 29 "max" rfl
theorem m_min (T : Tx K mg fn fa fdf) : mg "min" = none := T.f 30 "min" rfl
theorem m_range (T : Tx K mg fn fa fdf) : mg "range" = none := T.f 31 "range" rfl
theorem m_repr (T : Tx K mg fn fa fdf) : mg "repr" = none := T.f 32 "repr" rfl
theorem m_str (T : Tx K mg fn fa fdf) : mg "str" = none := T.f 33 "str" rfl
theorem m_sum (T : Tx K mg fn fa fdf) : mg "sum" = none := T.f 34 "sum" rfl
theorem m_super (T : Tx K mg fn fa fdf) : mg "super" = none := T.f 35 "super" rfl
theorem m_tuple (T : Tx K mg fn fa fdf) : mg "tuple" = none := T.f 36 "tuple" rfl
theorem m_zip (T : Tx K mg fn fa fdf) : mg "zip" = none := T.f 37 "zip" rfl
theorem m_RowError (T : Tx K mg fn fa fdf) : mg "RowError" = some (.ref (He.ga K "RowError")) := T.g 38 "RowError" rfl
theorem m_BadMost (T : Tx K mg fn fa fdf) : mg "BadMost" = some (.ref (He.ga K "BadMost")) := T.g 39 "BadMost" rfl
theorem m_BadRow (T : Tx K mg fn fa fdf) : mg "BadRow" = some (.ref (He.ga K "BadRow")) := T.g 40 "BadRow" rfl
theorem m_TooLong (T : Tx K mg fn fa fdf) : mg "TooLong" = some (.ref (He.ga K "TooLong")) := T.g 41 "TooLong" rfl
theorem m_UnlikeLong (T : Tx K mg fn fa fdf) : mg "UnlikeLong" = some (.ref (He.ga K "UnlikeLong")) := T.g 42 "UnlikeLong" rfl
theorem m_LETTERS (T : Tx K mg fn fa fdf) : ∃ t, mg "LETTERS" = some (.str (Str.ofString "abcdefghijklmnopqrstuvwxyz") t) := T.s 43 "LETTERS" "abcdefghijklmnopqrstuvwxyz" rfl
theorem m_MOST_ROW (T : Tx K mg fn fa fdf) : ∃ t, mg "MOST_ROW" = some (.int 400 t) := T.n 44 "MOST_ROW" (400) rfl
theorem m_MOST_BOARD (T : Tx K mg fn fa fdf) : ∃ t, mg "MOST_BOARD" = some (.int 60 t) := T.n 45 "MOST_BOARD" (60) rfl
def N_is_integer : List Str := [Str.ofString "value"]
def g_is_integer : SM := (sRet (dAnd (dIsi "int" (eVar 0)) (dNot (dIsi "bool" (eVar 0)))))
def F_is_integer : List D → M D := runF false 1 g_is_integer
theorem sc_is_integer : FnScope N_is_integer [Str.ofString "value"] (defScope (top 9)) := ⟨rfl, rfl, rfl, by decide +kernel, rfl, by decide +kernel, by decide +kernel⟩
theorem ok_is_integer (T : Tx K mg fn fa fdf) : FnG P w K mg base 1 (He.ga K "is_integer") (fdf 0) [Str.ofString "value"] F_is_integer :=
  fn_g false (T.d 0 (dd "is_integer" 9) rfl) sc_is_integer fun cdv A outer s H E WE hr hgd tk =>
    (ds_one (ds_ret (de_and (de_isi "int" (by decide +kernel) rfl (m_isinstance T) (pe_bltn (v := .ty "int") rfl (m_int T) v_int rfl) (dv 0)) (de_one (de_not (de_isi "bool" (by decide +kernel) rfl (m_isinstance T) (pe_bltn (v := .ty "bool") rfl (m_bool T) v_bool rfl) (dv 0)))))))
theorem b_is_integer (T : Tx K mg fn fa fdf) : Binds K (fdf 0) [Str.ofString "value"] [] := FunD.bindsN (T.d 0 (dd "is_integer" 9) rfl) fun _ _ _ _ _ _ us hl => match us, hl with | [_], _ => rfl
theorem k_is_integer (T : Tx K mg fn fa fdf) : PySem.W.keepIn K (.ref (He.ga K "is_integer")) = true := (T.d 0 (dd "is_integer" 9) rfl).kp
def N_is_row_of : List Str := [Str.ofString "value", Str.ofString "sign"]
def g_is_row_of : SM := (sRet (dAnd (dIsi "str" (eVar 0)) (dAnd (dBin leP (dCW lenP (aCons (eVar 0) aNil)) (eC (.t (.int (400))))) (dCW allP (aCons (dLc false (iAny (eVar 0)) (gN 1) tYesD (dBin inSP (eVar 1) (eC (.t (.str (Str.ofString "abcdefghijklmnopqrstuvwxyz"))))) [1]) aNil)))))
def F_is_row_of : List D → M D := runF false 2 g_is_row_of
theorem sc_is_row_of : FnScope N_is_row_of [Str.ofString "value"] (defScope (top 11)) := ⟨rfl, rfl, rfl, by decide +kernel, rfl, by decide +kernel, by decide +kernel⟩
theorem ok_is_row_of (T : Tx K mg fn fa fdf) : FnG P w K mg base 1 (He.ga K "is_row_of") (fdf 2) [Str.ofString "value"] F_is_row_of :=
  fn_g false (T.d 2 (dd "is_row_of" 11) rfl) sc_is_row_of fun cdv A outer s H E WE hr hgd tk =>
    (ds_one (ds_ret (de_and (de_isi "str" (by decide +kernel) rfl (m_isinstance T) (pe_bltn (v := .ty "str") rfl (m_str T) v_str rfl) (dv 0)) (de_and (de_cmp op_leA pd_le (de_bw call_len pw_len rfl (m_len T) v_len (da_cons (dv 0) da_nil)) (de_gint rfl (m_MOST_ROW T)) (nomark _)) (de_one (de_bw (cr_all rfl) pw_all rfl (m_all T) v_all (da_cons (de_lc false (own := [(Str.ofString "sign", 1)]) rfl sc_is_row_of.nd (di_any (dv 0)) (blkOk_by (by kernel_rfl)) (fun _ _ _ _ _ => (dgn 1 sc_is_row_of.nd)) (fun _ _ _ _ _ => dts_nil) (fun _ _ _ _ _ => (de_cmp op_in_sign pd_inS (dv 1) (de_gstr rfl (m_LETTERS T)) (by with_unfolding_all rfl))) (by decide)) da_nil)))))))
theorem b_is_row_of (T : Tx K mg fn fa fdf) : Binds K (fdf 2) [Str.ofString "value"] [] := FunD.bindsN (T.d 2 (dd "is_row_of" 11) rfl) fun _ _ _ _ _ _ us hl => match us, hl with | [_], _ => rfl
theorem k_is_row_of (T : Tx K mg fn fa fdf) : PySem.W.keepIn K (.ref (He.ga K "is_row_of")) = true := (T.d 2 (dd "is_row_of" 11) rfl).kp
def N_unlike_of : List Str := [Str.ofString "one", Str.ofString "other", Str.ofString "mine", Str.ofString "its"]
def g_unlike_of : SM := (sRet (dCW lenP (aCons (dLc false (iZipA (aCons (eVar 0) (aCons (eVar 1) aNil))) (gT 2 (gsCons (gN 2) (gsCons (gN 3) gsNil))) (dTest (dBin neP (eVar 2) (eVar 3))) (eC (.t (.int 1))) [2, 3]) aNil)))
def F_unlike_of : List D → M D := runF false 4 g_unlike_of
theorem sc_unlike_of : FnScope N_unlike_of [Str.ofString "one", Str.ofString "other"] (defScope (top 16)) := ⟨rfl, rfl, rfl, by decide +kernel, rfl, by decide +kernel, by decide +kernel⟩
theorem ok_unlike_of (T : Tx K mg fn fa fdf) : FnG P w K mg base 1 (He.ga K "unlike_of") (fdf 4) [Str.ofString "one", Str.ofString "other"] F_unlike_of :=
  fn_g false (T.d 4 (dd "unlike_of" 16) rfl) sc_unlike_of fun cdv A outer s H E WE hr hgd tk =>
    (ds_one (ds_ret (de_bw call_len pw_len rfl (m_len T) v_len (da_cons (de_lc false (own := [(Str.ofString "mine", 2), (Str.ofString "its", 3)]) rfl sc_unlike_of.nd (di_zipA rfl (m_zip T) (da_cons (dv 0) (da_cons (dv 1) da_nil))) (blkOk_by (by kernel_rfl)) (fun _ _ _ _ _ => (dg_tup rfl (dgs_cons (dgn 2 sc_unlike_of.nd) (dgs_cons (dgn 3 sc_unlike_of.nd) dgs_nil)))) (fun _ _ _ _ _ => (dts_one (dt_cmp (op_neA hr.units) pd_ne (dv 2) (dv 3) (nomark _)))) (fun _ _ _ _ _ => de_int) (by decide)) da_nil))))
theorem b_unlike_of (T : Tx K mg fn fa fdf) : Binds K (fdf 4) [Str.ofString "one", Str.ofString "other"] [] := FunD.bindsN (T.d 4 (dd "unlike_of" 16) rfl) fun _ _ _ _ _ _ us hl => match us, hl with | [_, _], _ => rfl
theorem k_unlike_of (T : Tx K mg fn fa fdf) : PySem.W.keepIn K (.ref (He.ga K "unlike_of")) = true := (T.d 4 (dd "unlike_of" 16) rfl).kp
def N_board_of : List Str := [Str.ofString "one", Str.ofString "other", Str.ofString "board", Str.ofString "at", Str.ofString "letter", Str.ofString "ahead", Str.ofString "line", Str.ofString "to", Str.ofString "its"]
def g_board_of : SM := (sSeq (sSet 2 (dLst true (aCons (dRg1 false (dBin addP (dCW lenP (aCons (eVar 1) aNil)) (eC (.t (.int 1))))) aNil))) (sSeq (sFor (iEnuA (eVar 0)) (gT 2 (gsCons (gN 3) (gsCons (gN 4) gsNil))) (sSeq (sPar 5 6 (aCons (dIx ixP (eVar 2) (dUn negP (eC (.t (.int 1))))) (aCons (dLst true (aCons (dBin addP (eVar 3) (eC (.t (.int 1)))) aNil)) aNil))) (sSeq (sFor (iEnuA (eVar 1)) (gT 2 (gsCons (gN 7) (gsCons (gN 8) gsNil))) (sDrop (dApp (eVar 6) (dCW minR (aCons (dBin addP (dIx ixP (eVar 5) (eVar 7)) (dCW intP (aCons (dBin neP (eVar 4) (eVar 8)) aNil))) (aCons (dBin addP (dIx ixP (eVar 5) (dBin addP (eVar 7) (eC (.t (.int 1))))) (eC (.t (.int 1)))) (aCons (dBin addP (dIx ixP (eVar 6) (eVar 7)) (eC (.t (.int 1)))) aNil))))))) (sDrop (dApp (eVar 2) (eVar 6)))))) (sRet (eVar 2))))
def F_board_of : List D → M D := runF false 9 g_board_of
theorem sc_board_of : FnScope N_board_of [Str.ofString "one", Str.ofString "other"] (defScope (top 18)) := ⟨rfl, rfl, rfl, by decide +kernel, rfl, by decide +kernel, by decide +kernel⟩
theorem ok_board_of (T : Tx K mg fn fa fdf) : FnG P w K mg base 1 (He.ga K "board_of") (fdf 6) [Str.ofString "one", Str.ofString "other"] F_board_of :=
  fn_g false (T.d 6 (dd "board_of" 18) rfl) sc_board_of fun cdv A outer s H E WE hr hgd tk =>
    (ds_cons (dset 2 sc_board_of.nd (de_lst true (da_cons (de_rg1 false rfl (m_list T) rfl (m_range T) (de_bin op_addA pd_add (de_bw call_len pw_len rfl (m_len T) v_len (da_cons (dv 1) da_nil)) de_int)) da_nil))) (ds_cons (ds_for (passes_of rfl) rfl (di_enumA rfl (m_enumerate T) (dv 0)) (dg_tup rfl (dgs_cons (dgn 3 sc_board_of.nd) (dgs_cons (dgn 4 sc_board_of.nd) dgs_nil))) (ds_cons (ds_par (i := 5) (j := 6) rfl sc_board_of.nd rfl rfl (by decide) rfl rfl (da_cons (de_ix (dv 2) (de_un un_neg pu_neg de_int) (fun _ _ => rfl)) (da_cons (de_lst true (da_cons (de_bin op_addA pd_add (dv 3) de_int) da_nil)) da_nil)) rfl) (ds_cons (ds_for (passes_of rfl) rfl (di_enumA rfl (m_enumerate T) (dv 1)) (dg_tup rfl (dgs_cons (dgn 7 sc_board_of.nd) (dgs_cons (dgn 8 sc_board_of.nd) dgs_nil))) (ds_one (ds_expr (de_app (dv 6) (de_bw (call_minR rfl hr.units) pw_minR rfl (m_min T) v_min (da_cons (de_bin op_addA pd_add (de_ix (dv 5) (dv 7) (fun _ _ => rfl)) (de_tw call_int1 pw_int rfl (m_int T) v_int (da_cons (de_cmp (op_neA hr.units) pd_ne (dv 4) (dv 8) (nomark _)) da_nil))) (da_cons (de_bin op_addA pd_add (de_ix (dv 5) (de_bin op_addA pd_add (dv 7) de_int) (fun _ _ => rfl)) de_int) (da_cons (de_bin op_addA pd_add (de_ix (dv 6) (dv 7) (fun _ _ => rfl)) de_int) da_nil)))))))) (ds_one (ds_expr (de_app (dv 2) (dv 6))))))) (ds_one (ds_ret (dv 2)))))
theorem b_board_of (T : Tx K mg fn fa fdf) : Binds K (fdf 6) [Str.ofString "one", Str.ofString "other"] [] := FunD.bindsN (T.d 6 (dd "board_of" 18) rfl) fun _ _ _ _ _ _ us hl => match us, hl with | [_, _], _ => rfl
theorem k_board_of (T : Tx K mg fn fa fdf) : PySem.W.keepIn K (.ref (He.ga K "board_of")) = true := (T.d 6 (dd "board_of" 18) rfl).kp
def N_last_line : List Str := [Str.ofString "piece", Str.ofString "row", Str.ofString "line", Str.ofString "found", Str.ofString "letter", Str.ofString "later", Str.ofString "at", Str.ofString "mine"]
def g_last_line : SM := (sSeq (sSet 2 (dRg1 false (dBin addP (dCW lenP (aCons (eVar 0) aNil)) (eC (.t (.int 1)))))) (sSeq (sSet 3 (dLst true (aCons (dIx ixP (eVar 2) (dUn negP (eC (.t (.int 1))))) aNil))) (sSeq (sFor (iAny (eVar 1)) (gN 4) (sSeq (sSet 5 (dLst true (aCons (eC (.t (.int 0))) aNil))) (sSeq (sFor (iEnuA (eVar 0)) (gT 2 (gsCons (gN 6) (gsCons (gN 7) gsNil))) (sDrop (dApp (eVar 5) (dCW minR (aCons (dBin addP (dIx ixP (eVar 2) (eVar 6)) (dCW intP (aCons (dBin neP (eVar 7) (eVar 4)) aNil))) (aCons (dBin addP (dIx ixP (eVar 2) (dBin addP (eVar 6) (eC (.t (.int 1))))) (eC (.t (.int 1)))) (aCons (dBin addP (dIx ixP (eVar 5) (eVar 6)) (eC (.t (.int 1)))) aNil))))))) (sSeq (sSet 2 (eVar 5)) (sDrop (dApp (eVar 3) (dIx ixP (eVar 2) (dUn negP (eC (.t (.int 1))))))))))) (sRet (eVar 3)))))
def F_last_line : List D → M D := runF false 8 g_last_line
theorem sc_last_line : FnScope N_last_line [Str.ofString "piece", Str.ofString "row"] (defScope (top 21)) := ⟨rfl, rfl, rfl, by decide +kernel, rfl, by decide +kernel, by decide +kernel⟩
theorem ok_last_line (T : Tx K mg fn fa fdf) : FnG P w K mg base 1 (He.ga K "last_line") (fdf 9) [Str.ofString "piece", Str.ofString "row"] F_last_line :=
  fn_g false (T.d 9 (dd "last_line" 21) rfl) sc_last_line fun cdv A outer s H E WE hr hgd tk =>
    (ds_cons (dset 2 sc_last_line.nd (de_rg1 false rfl (m_list T) rfl (m_range T) (de_bin op_addA pd_add (de_bw call_len pw_len rfl (m_len T) v_len (da_cons (dv 0) da_nil)) de_int))) (ds_cons (dset 3 sc_last_line.nd (de_lst true (da_cons (de_ix (dv 2) (de_un un_neg pu_neg de_int) (fun _ _ => rfl)) da_nil))) (ds_cons (ds_for (passes_of rfl) rfl (di_any (dv 1)) (dgn 4 sc_last_line.nd) (ds_cons (dset 5 sc_last_line.nd (de_lst true (da_cons de_int da_nil))) (ds_cons (ds_for (passes_of rfl) rfl (di_enumA rfl (m_enumerate T) (dv 0)) (dg_tup rfl (dgs_cons (dgn 6 sc_last_line.nd) (dgs_cons (dgn 7 sc_last_line.nd) dgs_nil))) (ds_one (ds_expr (de_app (dv 5) (de_bw (call_minR rfl hr.units) pw_minR rfl (m_min T) v_min (da_cons (de_bin op_addA pd_add (de_ix (dv 2) (dv 6) (fun _ _ => rfl)) (de_tw call_int1 pw_int rfl (m_int T) v_int (da_cons (de_cmp (op_neA hr.units) pd_ne (dv 7) (dv 4) (nomark _)) da_nil))) (da_cons (de_bin op_addA pd_add (de_ix (dv 2) (de_bin op_addA pd_add (dv 6) de_int) (fun _ _ => rfl)) de_int) (da_cons (de_bin op_addA pd_add (de_ix (dv 5) (dv 6) (fun _ _ => rfl)) de_int) da_nil)))))))) (ds_cons (dset 2 sc_last_line.nd (dv 5)) (ds_one (ds_expr (de_app (dv 3) (de_ix (dv 2) (de_un un_neg pu_neg de_int) (fun _ _ => rfl))))))))) (ds_one (ds_ret (dv 3))))))
theorem b_last_line (T : Tx K mg fn fa fdf) : Binds K (fdf 9) [Str.ofString "piece", Str.ofString "row"] [] := FunD.bindsN (T.d 9 (dd "last_line" 21) rfl) fun _ _ _ _ _ _ us hl => match us, hl with | [_, _], _ => rfl
theorem k_last_line (T : Tx K mg fn fa fdf) : PySem.W.keepIn K (.ref (He.ga K "last_line")) = true := (T.d 9 (dd "last_line" 21) rfl).kp
def N__law_pot : List Str := [Str.ofString "script", Str.ofString "place", Str.ofString "cell", Str.ofString "own", Str.ofString "small"]
def g__law_pot : SM := (sSeq (sSet 2 (dIf (dTest (dBin ltP (eVar 1) (dCW lenP (aCons (eVar 0) aNil)))) (dIx ixP (eVar 0) (eVar 1)) (dBin addP (dBin addP (dBin modP (dCW sumP (aCons (dSl false (eVar 0) oNone (oSome (eC (.t (.int 1))))) aNil)) (eC (.t (.int 1000721)))) (dBin mulP (eC (.t (.int 5303))) (eVar 1))) (eC (.t (.int 733)))))) (sSeq (sSet 3 (dBin mulP (dBin modP (dCW intP (aCons (dCW absP (aCons (eVar 2) aNil)) aNil)) (dBin powP (dBin powP (eC (.t (.int 10))) (eC (.t (.int 60)))) (eC (.t (.int 5))))) (dCW intP (aCons (dBin geP (dCW absP (aCons (eVar 2) aNil)) (dBin powP (eC (.t (.int 10))) (eC (.t (.int 18))))) aNil)))) (sSeq (sSet 4 (dBin modP (dCW intP (aCons (eVar 2) aNil)) (eC (.t (.int 2305843009213693951))))) (sRet (dLst true (aCons (eVar 3) (aCons (dBin modP (dCW intP (aCons (dBin addP (dBin addP (dBin mulP (eVar 4) (eC (.t (.int 28411)))) (dBin mulP (dBin mulP (eC (.t (.int 7723))) (eVar 1)) (eVar 1))) (eC (.t (.int 1621)))) aNil)) (eC (.t (.int 2305843009213693921)))) (aCons (eC (.t (.int 0))) aNil))))))))
def F__law_pot : List D → M D := runF true 5 g__law_pot
theorem sc__law_pot : FnScope N__law_pot [Str.ofString "script", Str.ofString "place"] (defScope (top 25)) := ⟨rfl, rfl, rfl, by decide +kernel, rfl, by decide +kernel, by decide +kernel⟩
theorem ok__law_pot (T : Tx K mg fn fa fdf) : FnG P w K mg base 1 (He.ga K "_law_pot") (fdf 12) [Str.ofString "script", Str.ofString "place"] F__law_pot :=
  fn_g true (T.d 12 (dd "_law_pot" 25) rfl) sc__law_pot fun cdv A outer s H E WE hr hgd tk =>
    (ds_cons (dset 2 sc__law_pot.nd (de_if (dt_cmp op_ltA pd_lt (dv 1) (de_bw call_len pw_len rfl (m_len T) v_len (da_cons (dv 0) da_nil)) (nomark _)) (de_ix (dv 0) (dv 1) (fun _ _ => rfl)) (de_bin op_addA pd_add (de_bin op_addA pd_add (de_bin op_mod pd_mod (de_bw (cr_sum rfl) pw_sum rfl (m_sum T) v_sum (da_cons (de_sl false (dv 0) do_none (do_some de_int)) da_nil)) de_int) (de_bin op_mulA pd_mul de_int (dv 1))) de_int))) (ds_cons (dset 3 sc__law_pot.nd (de_bin op_mulA pd_mul (de_bin op_mod pd_mod (de_tw call_int1 pw_int rfl (m_int T) v_int (da_cons (de_bw call_abs pw_abs rfl (m_abs T) v_abs (da_cons (dv 2) da_nil)) da_nil)) (de_bin op_powX pd_pow (de_bin op_powX pd_pow de_int de_int) de_int)) (de_tw call_int1 pw_int rfl (m_int T) v_int (da_cons (de_cmp op_geA pd_ge (de_bw call_abs pw_abs rfl (m_abs T) v_abs (da_cons (dv 2) da_nil)) (de_bin op_powX pd_pow de_int de_int) (nomark _)) da_nil)))) (ds_cons (dset 4 sc__law_pot.nd (de_bin op_mod pd_mod (de_tw call_int1 pw_int rfl (m_int T) v_int (da_cons (dv 2) da_nil)) de_int)) (ds_one (ds_ret (de_lst true (da_cons (dv 3) (da_cons (de_bin op_mod pd_mod (de_tw call_int1 pw_int rfl (m_int T) v_int (da_cons (de_bin op_addA pd_add (de_bin op_addA pd_add (de_bin op_mulA pd_mul (dv 4) de_int) (de_bin op_mulA pd_mul (de_bin op_mulA pd_mul de_int (dv 1)) (dv 1))) de_int) da_nil)) de_int) (da_cons de_int da_nil)))))))))
theorem b__law_pot (T : Tx K mg fn fa fdf) : Binds K (fdf 12) [Str.ofString "script", Str.ofString "place"] [] := FunD.bindsN (T.d 12 (dd "_law_pot" 25) rfl) fun _ _ _ _ _ _ us hl => match us, hl with | [_, _], _ => rfl
theorem k__law_pot (T : Tx K mg fn fa fdf) : PySem.W.keepIn K (.ref (He.ga K "_law_pot")) = true := (T.d 12 (dd "_law_pot" 25) rfl).kp
def N__law_take : List Str := [Str.ofString "pot", Str.ofString "upto", Str.ofString "digit", Str.ofString "prime", Str.ofString "blend"]
def g__law_take : SM := (sSeq (sIf (dTest (dBin gtP (dIx ixP (eVar 0) (eC (.t (.int 0)))) (eC (.t (.int 0))))) (sSeq (sSet 2 (dBin modP (dCW intP (aCons (dIx ixP (eVar 0) (eC (.t (.int 0)))) aNil)) (eVar 1))) (sSeq (sSub (eVar 0) (eC (.t (.int 0))) (dBin fdivP (dIx ixP (eVar 0) (eC (.t (.int 0)))) (eVar 1))) (sRet (eVar 2)))) sNext) (sSeq (sSub (eVar 0) (eC (.t (.int 2))) (dBin addP (dIx ixP (eVar 0) (eC (.t (.int 2)))) (eC (.t (.int 1))))) (sSeq (sSet 3 (dIx ixP (dLst false (aCons (eC (.t (.int 2147480419))) (aCons (eC (.t (.int 2147480411))) (aCons (eC (.t (.int 2147480407))) (aCons (eC (.t (.int 2147480347))) (aCons (eC (.t (.int 2147480281))) aNil)))))) (dBin modP (dCW intP (aCons (dIx ixP (eVar 0) (eC (.t (.int 2)))) aNil)) (eC (.t (.int 5)))))) (sSeq (sSet 4 (dBin modP (dCW intP (aCons (dBin powP (dCW intP (aCons (dBin addP (dBin addP (dIx ixP (eVar 0) (eC (.t (.int 1)))) (dBin mulP (dBin mulP (eC (.t (.int 39461))) (dIx ixP (eVar 0) (eC (.t (.int 2))))) (dIx ixP (eVar 0) (eC (.t (.int 2)))))) (eC (.t (.int 2081)))) aNil)) (eC (.t (.int 3)))) aNil)) (eVar 3))) (sSeq (sSet 4 (dBin modP (dCW intP (aCons (dBin mulP (eVar 4) (dBin addP (dBin modP (dCW intP (aCons (eVar 4) aNil)) (eC (.t (.int 7247)))) (dBin mulP (eC (.t (.int 389))) (dIx ixP (eVar 0) (eC (.t (.int 2))))))) aNil)) (eC (.t (.int 2305843009213693907))))) (sRet (dBin modP (dCW intP (aCons (dBin fdivP (eVar 4) (eC (.t (.int 157)))) aNil)) (eVar 1))))))))
def F__law_take : List D → M D := runF false 5 g__law_take
theorem sc__law_take : FnScope N__law_take [Str.ofString "pot", Str.ofString "upto"] (defScope (top 26)) := ⟨rfl, rfl, rfl, by decide +kernel, rfl, by decide +kernel, by decide +kernel⟩
theorem ok__law_take (T : Tx K mg fn fa fdf) : FnG P w K mg base 1 (He.ga K "_law_take") (fdf 13) [Str.ofString "pot", Str.ofString "upto"] F__law_take :=
  fn_g false (T.d 13 (dd "_law_take" 26) rfl) sc__law_take fun cdv A outer s H E WE hr hgd tk =>
    (ds_cons (ds_if (dt_cmp op_gtA pd_gt (de_ix (dv 0) de_int (fun _ _ => rfl)) de_int (nomark _)) (ds_cons (dset 2 sc__law_take.nd (de_bin op_mod pd_mod (de_tw call_int1 pw_int rfl (m_int T) v_int (da_cons (de_ix (dv 0) de_int (fun _ _ => rfl)) da_nil)) (dv 1))) (ds_cons (ds_sub (dv 0) de_int (de_bin op_fdivW pd_fdiv (de_ix (dv 0) de_int (fun _ _ => rfl)) (dv 1))) (ds_one (ds_ret (dv 2))))) ds_nil) (ds_cons (ds_sub (dv 0) de_int (de_bin op_addA pd_add (de_ix (dv 0) de_int (fun _ _ => rfl)) de_int)) (ds_cons (dset 3 sc__law_take.nd (de_ix (de_lst false (da_cons de_int (da_cons de_int (da_cons de_int (da_cons de_int (da_cons de_int da_nil)))))) (de_bin op_mod pd_mod (de_tw call_int1 pw_int rfl (m_int T) v_int (da_cons (de_ix (dv 0) de_int (fun _ _ => rfl)) da_nil)) de_int) (fun _ _ => rfl))) (ds_cons (dset 4 sc__law_take.nd (de_bin op_mod pd_mod (de_tw call_int1 pw_int rfl (m_int T) v_int (da_cons (de_bin op_powX pd_pow (de_tw call_int1 pw_int rfl (m_int T) v_int (da_cons (de_bin op_addA pd_add (de_bin op_addA pd_add (de_ix (dv 0) de_int (fun _ _ => rfl)) (de_bin op_mulA pd_mul (de_bin op_mulA pd_mul de_int (de_ix (dv 0) de_int (fun _ _ => rfl))) (de_ix (dv 0) de_int (fun _ _ => rfl)))) de_int) da_nil)) de_int) da_nil)) (dv 3))) (ds_cons (dset 4 sc__law_take.nd (de_bin op_mod pd_mod (de_tw call_int1 pw_int rfl (m_int T) v_int (da_cons (de_bin op_mulA pd_mul (dv 4) (de_bin op_addA pd_add (de_bin op_mod pd_mod (de_tw call_int1 pw_int rfl (m_int T) v_int (da_cons (dv 4) da_nil)) de_int) (de_bin op_mulA pd_mul de_int (de_ix (dv 0) de_int (fun _ _ => rfl))))) da_nil)) de_int)) (ds_one (ds_ret (de_bin op_mod pd_mod (de_tw call_int1 pw_int rfl (m_int T) v_int (da_cons (de_bin op_fdivW pd_fdiv (dv 4) de_int) da_nil)) (dv 1)))))))))
theorem b__law_take (T : Tx K mg fn fa fdf) : Binds K (fdf 13) [Str.ofString "pot", Str.ofString "upto"] [] := FunD.bindsN (T.d 13 (dd "_law_take" 26) rfl) fun _ _ _ _ _ _ us hl => match us, hl with | [_, _], _ => rfl
theorem k__law_take (T : Tx K mg fn fa fdf) : PySem.W.keepIn K (.ref (He.ga K "_law_take")) = true := (T.d 13 (dd "_law_take" 26) rfl).kp
def N__law_cells : List Str := [Str.ofString "script", Str.ofString "most"]
def g__law_cells : SM := (sRet (dRg1 false (dCW maxQ (aCons (eC (.t (.int 1))) (aCons (dCW minR (aCons (eVar 1) (aCons (dCW lenP (aCons (eVar 0) aNil)) aNil))) aNil)))))
def F__law_cells : List D → M D := runF false 2 g__law_cells
theorem sc__law_cells : FnScope N__law_cells [Str.ofString "script", Str.ofString "most"] (defScope (top 28)) := ⟨rfl, rfl, rfl, by decide +kernel, rfl, by decide +kernel, by decide +kernel⟩
theorem ok__law_cells (T : Tx K mg fn fa fdf) : FnG P w K mg base 1 (He.ga K "_law_cells") (fdf 15) [Str.ofString "script", Str.ofString "most"] F__law_cells :=
  fn_g false (T.d 15 (dd "_law_cells" 28) rfl) sc__law_cells fun cdv A outer s H E WE hr hgd tk =>
    (ds_one (ds_ret (de_rg1 false rfl (m_list T) rfl (m_range T) (de_bw (call_maxQ rfl hr.units) pw_maxQ rfl (m_max T) v_max (da_cons de_int (da_cons (de_bw (call_minR rfl hr.units) pw_minR rfl (m_min T) v_min (da_cons (dv 1) (da_cons (de_bw call_len pw_len rfl (m_len T) v_len (da_cons (dv 0) da_nil)) da_nil))) da_nil))))))
theorem b__law_cells (T : Tx K mg fn fa fdf) : Binds K (fdf 15) [Str.ofString "script", Str.ofString "most"] [] := FunD.bindsN (T.d 15 (dd "_law_cells" 28) rfl) fun _ _ _ _ _ _ us hl => match us, hl with | [_, _], _ => rfl
theorem k__law_cells (T : Tx K mg fn fa fdf) : PySem.W.keepIn K (.ref (He.ga K "_law_cells")) = true := (T.d 15 (dd "_law_cells" 28) rfl).kp
def N__law_least : List Str := [Str.ofString "one", Str.ofString "other", Str.ofString "line", Str.ofString "at", Str.ofString "letter", Str.ofString "later", Str.ofString "to", Str.ofString "its"]
def g__law_least : SM := (sSeq (sSet 2 (dRg1 false (dBin addP (dCW lenP (aCons (eVar 1) aNil)) (eC (.t (.int 1)))))) (sSeq (sFor (iEnuA (eVar 0)) (gT 2 (gsCons (gN 3) (gsCons (gN 4) gsNil))) (sSeq (sSet 5 (dLst true (aCons (dBin addP (eVar 3) (eC (.t (.int 1)))) aNil))) (sSeq (sFor (iEnuA (eVar 1)) (gT 2 (gsCons (gN 6) (gsCons (gN 7) gsNil))) (sDrop (dApp (eVar 5) (dCW minR (aCons (dBin addP (dIx ixP (eVar 2) (eVar 6)) (dCW intP (aCons (dBin neP (eVar 4) (eVar 7)) aNil))) (aCons (dBin addP (dIx ixP (eVar 2) (dBin addP (eVar 6) (eC (.t (.int 1))))) (eC (.t (.int 1)))) (aCons (dBin addP (dIx ixP (eVar 5) (dUn negP (eC (.t (.int 1))))) (eC (.t (.int 1)))) aNil))))))) (sSet 2 (eVar 5))))) (sRet (dIx ixP (eVar 2) (dUn negP (eC (.t (.int 1))))))))
def F__law_least : List D → M D := runF false 8 g__law_least
theorem sc__law_least : FnScope N__law_least [Str.ofString "one", Str.ofString "other"] (defScope (top 30)) := ⟨rfl, rfl, rfl, by decide +kernel, rfl, by decide +kernel, by decide +kernel⟩
theorem ok__law_least (T : Tx K mg fn fa fdf) : FnG P w K mg base 1 (He.ga K "_law_least") (fdf 17) [Str.ofString "one", Str.ofString "other"] F__law_least :=
  fn_g false (T.d 17 (dd "_law_least" 30) rfl) sc__law_least fun cdv A outer s H E WE hr hgd tk =>
    (ds_cons (dset 2 sc__law_least.nd (de_rg1 false rfl (m_list T) rfl (m_range T) (de_bin op_addA pd_add (de_bw call_len pw_len rfl (m_len T) v_len (da_cons (dv 1) da_nil)) de_int))) (ds_cons (ds_for (passes_of rfl) rfl (di_enumA rfl (m_enumerate T) (dv 0)) (dg_tup rfl (dgs_cons (dgn 3 sc__law_least.nd) (dgs_cons (dgn 4 sc__law_least.nd) dgs_nil))) (ds_cons (dset 5 sc__law_least.nd (de_lst true (da_cons (de_bin op_addA pd_add (dv 3) de_int) da_nil))) (ds_cons (ds_for (passes_of rfl) rfl (di_enumA rfl (m_enumerate T) (dv 1)) (dg_tup rfl (dgs_cons (dgn 6 sc__law_least.nd) (dgs_cons (dgn 7 sc__law_least.nd) dgs_nil))) (ds_one (ds_expr (de_app (dv 5) (de_bw (call_minR rfl hr.units) pw_minR rfl (m_min T) v_min (da_cons (de_bin op_addA pd_add (de_ix (dv 2) (dv 6) (fun _ _ => rfl)) (de_tw call_int1 pw_int rfl (m_int T) v_int (da_cons (de_cmp (op_neA hr.units) pd_ne (dv 4) (dv 7) (nomark _)) da_nil))) (da_cons (de_bin op_addA pd_add (de_ix (dv 2) (de_bin op_addA pd_add (dv 6) de_int) (fun _ _ => rfl)) de_int) (da_cons (de_bin op_addA pd_add (de_ix (dv 5) (de_un un_neg pu_neg de_int) (fun _ _ => rfl)) de_int) da_nil)))))))) (ds_one (dset 2 sc__law_least.nd (dv 5)))))) (ds_one (ds_ret (de_ix (dv 2) (de_un un_neg pu_neg de_int) (fun _ _ => rfl))))))
theorem b__law_least (T : Tx K mg fn fa fdf) : Binds K (fdf 17) [Str.ofString "one", Str.ofString "other"] [] := FunD.bindsN (T.d 17 (dd "_law_least" 30) rfl) fun _ _ _ _ _ _ us hl => match us, hl with | [_, _], _ => rfl
theorem k__law_least (T : Tx K mg fn fa fdf) : PySem.W.keepIn K (.ref (He.ga K "_law_least")) = true := (T.d 17 (dd "_law_least" 30) rfl).kp
def N_is_between : List Str := [Str.ofString "value", Str.ofString "low", Str.ofString "high"]
def g_is_between : SM := (sRet (dAnd (dCall F_is_integer (aCons (eVar 0) aNil)) (dChain leP leP (eVar 1) (eVar 0) (eVar 2))))
def F_is_between : List D → M D := runF false 3 g_is_between
theorem sc_is_between : FnScope N_is_between [Str.ofString "value", Str.ofString "low", Str.ofString "high"] (defScope (top 10)) := ⟨rfl, rfl, rfl, by decide +kernel, rfl, by decide +kernel, by decide +kernel⟩
theorem ok_is_between (T : Tx K mg fn fa fdf) : FnG P w K mg base 2 (He.ga K "is_between") (fdf 1) [Str.ofString "value", Str.ofString "low", Str.ofString "high"] F_is_between :=
  fn_g false (T.d 1 (dd "is_between" 10) rfl) sc_is_between fun cdv A outer s H E WE hr hgd tk =>
    (ds_one (ds_ret (de_and (de_call (ok_is_integer T) (hr.mono (by decide)) hgd rfl (m_is_integer T) (k_is_integer T) (b_is_integer T) tk (da_cons (dv 0) da_nil) (anum_cons anum_nil)) (de_one (de_chain op_leA pd_le op_leA pd_le (dv 1) (dv 0) (dv 2))))))
theorem b_is_between (T : Tx K mg fn fa fdf) : Binds K (fdf 1) [Str.ofString "value", Str.ofString "low", Str.ofString "high"] [] := FunD.bindsN (T.d 1 (dd "is_between" 10) rfl) fun _ _ _ _ _ _ us hl => match us, hl with | [_, _, _], _ => rfl
theorem k_is_between (T : Tx K mg fn fa fdf) : PySem.W.keepIn K (.ref (He.ga K "is_between")) = true := (T.d 1 (dd "is_between" 10) rfl).kp
def N_check_row : List Str := [Str.ofString "value"]
def g_check_row : SM := (sIf (tNotD (dTru (dCall F_is_row_of (aCons (eVar 0) aNil)))) sNever sNext)
def F_check_row : List D → M D := runF false 1 g_check_row
theorem sc_check_row : FnScope N_check_row [Str.ofString "value"] (defScope (top 13)) := ⟨rfl, rfl, rfl, by decide +kernel, rfl, by decide +kernel, by decide +kernel⟩
theorem ok_check_row (T : Tx K mg fn fa fdf) : FnG P w K mg base 2 (He.ga K "check_row") (fdf 3) [Str.ofString "value"] F_check_row :=
  fn_g false (T.d 3 (dd "check_row" 13) rfl) sc_check_row fun cdv A outer s H E WE hr hgd tk =>
    (ds_one (ds_if (dt_not (dt_tru (de_call (ok_is_row_of T) (hr.mono (by decide)) hgd rfl (m_is_row_of T) (k_is_row_of T) (b_is_row_of T) tk (da_cons (dv 0) da_nil) (anum_cons anum_nil)))) (ds_one ds_never) ds_nil))
theorem b_check_row (T : Tx K mg fn fa fdf) : Binds K (fdf 3) [Str.ofString "value"] [] := FunD.bindsN (T.d 3 (dd "check_row" 13) rfl) fun _ _ _ _ _ _ us hl => match us, hl with | [_], _ => rfl
theorem k_check_row (T : Tx K mg fn fa fdf) : PySem.W.keepIn K (.ref (He.ga K "check_row")) = true := (T.d 3 (dd "check_row" 13) rfl).kp
def N__law_of : List Str := [Str.ofString "pot", Str.ofString "some"]
def g__law_of : SM := (sRet (dIx ixP (eVar 1) (dCall F__law_take (aCons (eVar 0) (aCons (dCW lenP (aCons (eVar 1) aNil)) aNil)))))
def F__law_of : List D → M D := runF false 2 g__law_of
theorem sc__law_of : FnScope N__law_of [Str.ofString "pot", Str.ofString "some"] (defScope (top 27)) := ⟨rfl, rfl, rfl, by decide +kernel, rfl, by decide +kernel, by decide +kernel⟩
theorem ok__law_of (T : Tx K mg fn fa fdf) : FnG P w K mg base 2 (He.ga K "_law_of") (fdf 14) [Str.ofString "pot", Str.ofString "some"] F__law_of :=
  fn_g false (T.d 14 (dd "_law_of" 27) rfl) sc__law_of fun cdv A outer s H E WE hr hgd tk =>
    (ds_one (ds_ret (de_ix (dv 1) (de_call (ok__law_take T) (hr.mono (by decide)) hgd rfl (m__law_take T) (k__law_take T) (b__law_take T) tk (da_cons (dv 0) (da_cons (de_bw call_len pw_len rfl (m_len T) v_len (da_cons (dv 1) da_nil)) da_nil)) (anum_cons (anum_cons anum_nil))) (fun _ _ => rfl))))
theorem b__law_of (T : Tx K mg fn fa fdf) : Binds K (fdf 14) [Str.ofString "pot", Str.ofString "some"] [] := FunD.bindsN (T.d 14 (dd "_law_of" 27) rfl) fun _ _ _ _ _ _ us hl => match us, hl with | [_, _], _ => rfl
theorem k__law_of (T : Tx K mg fn fa fdf) : PySem.W.keepIn K (.ref (He.ga K "_law_of")) = true := (T.d 14 (dd "_law_of" 27) rfl).kp
def N_unlike : List Str := [Str.ofString "one", Str.ofString "other"]
def g_unlike : SM := (sSeq (sDrop (dCall F_check_row (aCons (eVar 0) aNil))) (sSeq (sDrop (dCall F_check_row (aCons (eVar 1) aNil))) (sSeq (sIf (dTest (dBin neP (dCW lenP (aCons (eVar 0) aNil)) (dCW lenP (aCons (eVar 1) aNil)))) sNever sNext) (sRet (dCall F_unlike_of (aCons (eVar 0) (aCons (eVar 1) aNil)))))))
def F_unlike : List D → M D := runF false 2 g_unlike
theorem sc_unlike : FnScope N_unlike [Str.ofString "one", Str.ofString "other"] (defScope (top 17)) := ⟨rfl, rfl, rfl, by decide +kernel, rfl, by decide +kernel, by decide +kernel⟩
theorem ok_unlike (T : Tx K mg fn fa fdf) : FnG P w K mg base 3 (He.ga K "unlike") (fdf 5) [Str.ofString "one", Str.ofString "other"] F_unlike :=
  fn_g false (T.d 5 (dd "unlike" 17) rfl) sc_unlike fun cdv A outer s H E WE hr hgd tk =>
    (ds_cons (ds_expr (de_call (ok_check_row T) (hr.mono (by decide)) hgd rfl (m_check_row T) (k_check_row T) (b_check_row T) tk (da_cons (dv 0) da_nil) (anum_cons anum_nil))) (ds_cons (ds_expr (de_call (ok_check_row T) (hr.mono (by decide)) hgd rfl (m_check_row T) (k_check_row T) (b_check_row T) tk (da_cons (dv 1) da_nil) (anum_cons anum_nil))) (ds_cons (ds_if (dt_cmp (op_neA hr.units) pd_ne (de_bw call_len pw_len rfl (m_len T) v_len (da_cons (dv 0) da_nil)) (de_bw call_len pw_len rfl (m_len T) v_len (da_cons (dv 1) da_nil)) (nomark _)) (ds_one ds_never) ds_nil) (ds_one (ds_ret (de_call (ok_unlike_of T) (hr.mono (by decide)) hgd rfl (m_unlike_of T) (k_unlike_of T) (b_unlike_of T) tk (da_cons (dv 0) (da_cons (dv 1) da_nil)) (anum_cons (anum_cons anum_nil))))))))
theorem b_unlike (T : Tx K mg fn fa fdf) : Binds K (fdf 5) [Str.ofString "one", Str.ofString "other"] [] := FunD.bindsN (T.d 5 (dd "unlike" 17) rfl) fun _ _ _ _ _ _ us hl => match us, hl with | [_, _], _ => rfl
theorem k_unlike (T : Tx K mg fn fa fdf) : PySem.W.keepIn K (.ref (He.ga K "unlike")) = true := (T.d 5 (dd "unlike" 17) rfl).kp
def N_check_board : List Str := [Str.ofString "one", Str.ofString "other"]
def g_check_board : SM := (sSeq (sDrop (dCall F_check_row (aCons (eVar 0) aNil))) (sSeq (sDrop (dCall F_check_row (aCons (eVar 1) aNil))) (sIf (dTest (dBin gtP (dCW maxQ (aCons (dCW lenP (aCons (eVar 0) aNil)) (aCons (dCW lenP (aCons (eVar 1) aNil)) aNil))) (eC (.t (.int (60)))))) sNever sNext)))
def F_check_board : List D → M D := runF false 2 g_check_board
theorem sc_check_board : FnScope N_check_board [Str.ofString "one", Str.ofString "other"] (defScope (top 19)) := ⟨rfl, rfl, rfl, by decide +kernel, rfl, by decide +kernel, by decide +kernel⟩
theorem ok_check_board (T : Tx K mg fn fa fdf) : FnG P w K mg base 3 (He.ga K "check_board") (fdf 7) [Str.ofString "one", Str.ofString "other"] F_check_board :=
  fn_g false (T.d 7 (dd "check_board" 19) rfl) sc_check_board fun cdv A outer s H E WE hr hgd tk =>
    (ds_cons (ds_expr (de_call (ok_check_row T) (hr.mono (by decide)) hgd rfl (m_check_row T) (k_check_row T) (b_check_row T) tk (da_cons (dv 0) da_nil) (anum_cons anum_nil))) (ds_cons (ds_expr (de_call (ok_check_row T) (hr.mono (by decide)) hgd rfl (m_check_row T) (k_check_row T) (b_check_row T) tk (da_cons (dv 1) da_nil) (anum_cons anum_nil))) (ds_one (ds_if (dt_cmp op_gtA pd_gt (de_bw (call_maxQ rfl hr.units) pw_maxQ rfl (m_max T) v_max (da_cons (de_bw call_len pw_len rfl (m_len T) v_len (da_cons (dv 0) da_nil)) (da_cons (de_bw call_len pw_len rfl (m_len T) v_len (da_cons (dv 1) da_nil)) da_nil))) (de_gint rfl (m_MOST_BOARD T)) (nomark _)) (ds_one ds_never) ds_nil))))
theorem b_check_board (T : Tx K mg fn fa fdf) : Binds K (fdf 7) [Str.ofString "one", Str.ofString "other"] [] := FunD.bindsN (T.d 7 (dd "check_board" 19) rfl) fun _ _ _ _ _ _ us hl => match us, hl with | [_, _], _ => rfl
theorem k_check_board (T : Tx K mg fn fa fdf) : PySem.W.keepIn K (.ref (He.ga K "check_board")) = true := (T.d 7 (dd "check_board" 19) rfl).kp
def N_nearly_at : List Str := [Str.ofString "row", Str.ofString "piece", Str.ofString "most", Str.ofString "end", Str.ofString "many"]
def g_nearly_at : SM := (sSeq (sDrop (dCall F_check_row (aCons (eVar 0) aNil))) (sSeq (sDrop (dCall F_check_row (aCons (eVar 1) aNil))) (sSeq (sIf (tNotD (dTru (dCall F_is_between (aCons (eVar 2) (aCons (eC (.t (.int 0))) (aCons (eC (.t (.int (60)))) aNil)))))) sNever sNext) (sSeq (sIf (dTest (dBin gtP (dCW lenP (aCons (eVar 1) aNil)) (eC (.t (.int (60)))))) sNever sNext) (sRet (dCW tupP (aCons (dLc false (iEnuA (dCall F_last_line (aCons (eVar 1) (aCons (eVar 0) aNil)))) (gT 2 (gsCons (gN 3) (gsCons (gN 4) gsNil))) (dTest (dBin leP (eVar 4) (eVar 2))) (dTup (aCons (eVar 3) (aCons (eVar 4) aNil))) [3, 4]) aNil)))))))
def F_nearly_at : List D → M D := runF false 5 g_nearly_at
theorem sc_nearly_at : FnScope N_nearly_at [Str.ofString "row", Str.ofString "piece", Str.ofString "most"] (defScope (top 22)) := ⟨rfl, rfl, rfl, by decide +kernel, rfl, by decide +kernel, by decide +kernel⟩
theorem ok_nearly_at (T : Tx K mg fn fa fdf) : FnG P w K mg base 3 (He.ga K "nearly_at") (fdf 10) [Str.ofString "row", Str.ofString "piece", Str.ofString "most"] F_nearly_at :=
  fn_g false (T.d 10 (dd "nearly_at" 22) rfl) sc_nearly_at fun cdv A outer s H E WE hr hgd tk =>
    (ds_cons (ds_expr (de_call (ok_check_row T) (hr.mono (by decide)) hgd rfl (m_check_row T) (k_check_row T) (b_check_row T) tk (da_cons (dv 0) da_nil) (anum_cons anum_nil))) (ds_cons (ds_expr (de_call (ok_check_row T) (hr.mono (by decide)) hgd rfl (m_check_row T) (k_check_row T) (b_check_row T) tk (da_cons (dv 1) da_nil) (anum_cons anum_nil))) (ds_cons (ds_if (dt_not (dt_tru (de_call (ok_is_between T) (hr.mono (by decide)) hgd rfl (m_is_between T) (k_is_between T) (b_is_between T) tk (da_cons (dv 2) (da_cons de_int (da_cons (de_gint rfl (m_MOST_BOARD T)) da_nil))) (anum_cons (anum_cons (anum_cons anum_nil)))))) (ds_one ds_never) ds_nil) (ds_cons (ds_if (dt_cmp op_gtA pd_gt (de_bw call_len pw_len rfl (m_len T) v_len (da_cons (dv 1) da_nil)) (de_gint rfl (m_MOST_BOARD T)) (nomark _)) (ds_one ds_never) ds_nil) (ds_one (ds_ret (de_tw call_tuple_of pw_tup rfl (m_tuple T) v_tuple (da_cons (de_lc false (own := [(Str.ofString "end", 3), (Str.ofString "many", 4)]) rfl sc_nearly_at.nd (di_enumA rfl (m_enumerate T) (de_call (ok_last_line T) (hr.mono (by decide)) hgd rfl (m_last_line T) (k_last_line T) (b_last_line T) tk (da_cons (dv 1) (da_cons (dv 0) da_nil)) (anum_cons (anum_cons anum_nil)))) (blkOk_by (by kernel_rfl)) (fun _ _ _ _ _ => (dg_tup rfl (dgs_cons (dgn 3 sc_nearly_at.nd) (dgs_cons (dgn 4 sc_nearly_at.nd) dgs_nil)))) (fun _ _ _ _ _ => (dts_one (dt_cmp op_leA pd_le (dv 4) (dv 2) (nomark _)))) (fun _ _ _ _ _ => (de_tup (da_cons (dv 3) (da_cons (dv 4) da_nil)))) (by decide)) da_nil))))))))
theorem b_nearly_at (T : Tx K mg fn fa fdf) : Binds K (fdf 10) [Str.ofString "row", Str.ofString "piece", Str.ofString "most"] [] := FunD.bindsN (T.d 10 (dd "nearly_at" 22) rfl) fun _ _ _ _ _ _ us hl => match us, hl with | [_, _, _], _ => rfl
theorem k_nearly_at (T : Tx K mg fn fa fdf) : PySem.W.keepIn K (.ref (He.ga K "nearly_at")) = true := (T.d 10 (dd "nearly_at" 22) rfl).kp
def N_nearest_in : List Str := [Str.ofString "row", Str.ofString "piece", Str.ofString "found", Str.ofString "at"]
def g_nearest_in : SM := (sSeq (sDrop (dCall F_check_row (aCons (eVar 0) aNil))) (sSeq (sDrop (dCall F_check_row (aCons (eVar 1) aNil))) (sSeq (sSet 2 (dLc false (iRg1 (aCons (dBin addP (dBin subP (dCW lenP (aCons (eVar 0) aNil)) (dCW lenP (aCons (eVar 1) aNil))) (eC (.t (.int 1)))) aNil)) (gN 3) tYesD (dTup (aCons (dCall F_unlike_of (aCons (dSl false (eVar 0) (oSome (eVar 3)) (oSome (dBin addP (eVar 3) (dCW lenP (aCons (eVar 1) aNil))))) (aCons (eVar 1) aNil))) (aCons (eVar 3) aNil))) [3])) (sRet (dIf (dTest (dBin neP (eVar 2) (dLst false aNil))) (dCW minR (aCons (eVar 2) aNil)) (eC (.t .none)))))))
def F_nearest_in : List D → M D := runF false 4 g_nearest_in
theorem sc_nearest_in : FnScope N_nearest_in [Str.ofString "row", Str.ofString "piece"] (defScope (top 23)) := ⟨rfl, rfl, rfl, by decide +kernel, rfl, by decide +kernel, by decide +kernel⟩
theorem ok_nearest_in (T : Tx K mg fn fa fdf) : FnG P w K mg base 3 (He.ga K "nearest_in") (fdf 11) [Str.ofString "row", Str.ofString "piece"] F_nearest_in :=
  fn_g false (T.d 11 (dd "nearest_in" 23) rfl) sc_nearest_in fun cdv A outer s H E WE hr hgd tk =>
    (ds_cons (ds_expr (de_call (ok_check_row T) (hr.mono (by decide)) hgd rfl (m_check_row T) (k_check_row T) (b_check_row T) tk (da_cons (dv 0) da_nil) (anum_cons anum_nil))) (ds_cons (ds_expr (de_call (ok_check_row T) (hr.mono (by decide)) hgd rfl (m_check_row T) (k_check_row T) (b_check_row T) tk (da_cons (dv 1) da_nil) (anum_cons anum_nil))) (ds_cons (ds_setLc false (own := [(Str.ofString "at", 3)]) rfl sc_nearest_in.nd rfl rfl (sw_true rfl rfl rfl (by decide +kernel)) (di_rg1 rfl (m_range T) (da_cons (de_bin op_addA pd_add (de_bin op_sub pd_sub (de_bw call_len pw_len rfl (m_len T) v_len (da_cons (dv 0) da_nil)) (de_bw call_len pw_len rfl (m_len T) v_len (da_cons (dv 1) da_nil))) de_int) da_nil)) (blkOk_by (by kernel_rfl)) (fun _ _ _ _ _ => (dgn 3 sc_nearest_in.nd)) (fun _ _ _ _ _ => dts_nil) (fun _ _ _ _ _ => (de_tup (da_cons (de_call (ok_unlike_of T) (hr.mono (by decide)) hgd rfl (m_unlike_of T) (k_unlike_of T) (b_unlike_of T) takesF (da_cons (de_sl false (dv 0) (do_some (dv 3)) (do_some (de_bin op_addA pd_add (dv 3) (de_bw call_len pw_len rfl (m_len T) v_len (da_cons (dv 1) da_nil))))) (da_cons (dv 1) da_nil)) (anum_cons (anum_cons anum_nil))) (da_cons (dv 3) da_nil)))) (by decide)) (ds_one (ds_ret (de_if (dt_cmp (op_neA hr.units) pd_ne (dv 2) (de_lst false da_nil) (nomark _)) (de_bw (call_minR rfl hr.units) pw_minR rfl (m_min T) v_min (da_cons (dv 2) da_nil)) de_non))))))
theorem b_nearest_in (T : Tx K mg fn fa fdf) : Binds K (fdf 11) [Str.ofString "row", Str.ofString "piece"] [] := FunD.bindsN (T.d 11 (dd "nearest_in" 23) rfl) fun _ _ _ _ _ _ us hl => match us, hl with | [_, _], _ => rfl
theorem k_nearest_in (T : Tx K mg fn fa fdf) : PySem.W.keepIn K (.ref (He.ga K "nearest_in")) = true := (T.d 11 (dd "nearest_in" 23) rfl).kp
def N__law_row : List Str := [Str.ofString "pot", Str.ofString "letters", Str.ofString "most", Str.ofString "lap"]
def g__law_row : SM := (sRet (dM "str" joinP (eC (.t (.str (Str.ofString "")))) (aCons (dLc false (iRg1 (aCons (dCall F__law_take (aCons (eVar 0) (aCons (dBin addP (eVar 2) (eC (.t (.int 1)))) aNil))) aNil)) (gN 3) tYesD (dCall F__law_of (aCons (eVar 0) (aCons (dCN false listP (aCons (eVar 1) aNil)) aNil))) [3]) aNil)))
def F__law_row : List D → M D := runF false 4 g__law_row
theorem sc__law_row : FnScope N__law_row [Str.ofString "pot", Str.ofString "letters", Str.ofString "most"] (defScope (top 29)) := ⟨rfl, rfl, rfl, by decide +kernel, rfl, by decide +kernel, by decide +kernel⟩
theorem ok__law_row (T : Tx K mg fn fa fdf) : FnG P w K mg base 3 (He.ga K "_law_row") (fdf 16) [Str.ofString "pot", Str.ofString "letters", Str.ofString "most"] F__law_row :=
  fn_g false (T.d 16 (dd "_law_row" 29) rfl) sc__law_row fun cdv A outer s H E WE hr hgd tk =>
    (ds_one (ds_ret (de_bm PySem.F.plainAttrs_str PySem.F.slot_str_join PySem.F.type_str_join mt_join pm_join de_str (da_cons (de_lc false (own := [(Str.ofString "lap", 3)]) rfl sc__law_row.nd (di_rg1 rfl (m_range T) (da_cons (de_call (ok__law_take T) (hr.mono (by decide)) hgd rfl (m__law_take T) (k__law_take T) (b__law_take T) tk (da_cons (dv 0) (da_cons (de_bin op_addA pd_add (dv 2) de_int) da_nil)) (anum_cons (anum_cons anum_nil))) da_nil)) (blkOk_by (by kernel_rfl)) (fun _ _ _ _ _ => (dgn 3 sc__law_row.nd)) (fun _ _ _ _ _ => dts_nil) (fun _ _ _ _ _ => (de_call (ok__law_of T) (hr.mono (by decide)) hgd rfl (m__law_of T) (k__law_of T) (b__law_of T) takesF (da_cons (dv 0) (da_cons (de_tn false (call_listA rfl) pn_list rfl (m_list T) v_list (da_cons (dv 1) da_nil)) da_nil)) (anum_cons (anum_cons anum_nil)))) (by decide)) da_nil))))
theorem b__law_row (T : Tx K mg fn fa fdf) : Binds K (fdf 16) [Str.ofString "pot", Str.ofString "letters", Str.ofString "most"] [] := FunD.bindsN (T.d 16 (dd "_law_row" 29) rfl) fun _ _ _ _ _ _ us hl => match us, hl with | [_, _, _], _ => rfl
theorem k__law_row (T : Tx K mg fn fa fdf) : PySem.W.keepIn K (.ref (He.ga K "_law_row")) = true := (T.d 16 (dd "_law_row" 29) rfl).kp
def N_least_changes : List Str := [Str.ofString "one", Str.ofString "other"]
def g_least_changes : SM := (sSeq (sDrop (dCall F_check_board (aCons (eVar 0) (aCons (eVar 1) aNil)))) (sRet (dIx ixP (dIx ixP (dCall F_board_of (aCons (eVar 0) (aCons (eVar 1) aNil))) (dUn negP (eC (.t (.int 1))))) (dUn negP (eC (.t (.int 1)))))))
def F_least_changes : List D → M D := runF false 2 g_least_changes
theorem sc_least_changes : FnScope N_least_changes [Str.ofString "one", Str.ofString "other"] (defScope (top 20)) := ⟨rfl, rfl, rfl, by decide +kernel, rfl, by decide +kernel, by decide +kernel⟩
theorem ok_least_changes (T : Tx K mg fn fa fdf) : FnG P w K mg base 4 (He.ga K "least_changes") (fdf 8) [Str.ofString "one", Str.ofString "other"] F_least_changes :=
  fn_g false (T.d 8 (dd "least_changes" 20) rfl) sc_least_changes fun cdv A outer s H E WE hr hgd tk =>
    (ds_cons (ds_expr (de_call (ok_check_board T) (hr.mono (by decide)) hgd rfl (m_check_board T) (k_check_board T) (b_check_board T) tk (da_cons (dv 0) (da_cons (dv 1) da_nil)) (anum_cons (anum_cons anum_nil)))) (ds_one (ds_ret (de_ix (de_ix (de_call (ok_board_of T) (hr.mono (by decide)) hgd rfl (m_board_of T) (k_board_of T) (b_board_of T) tk (da_cons (dv 0) (da_cons (dv 1) da_nil)) (anum_cons (anum_cons anum_nil))) (de_un un_neg pu_neg de_int) (fun _ _ => rfl)) (de_un un_neg pu_neg de_int) (fun _ _ => rfl)))))
theorem b_least_changes (T : Tx K mg fn fa fdf) : Binds K (fdf 8) [Str.ofString "one", Str.ofString "other"] [] := FunD.bindsN (T.d 8 (dd "least_changes" 20) rfl) fun _ _ _ _ _ _ us hl => match us, hl with | [_, _], _ => rfl
theorem k_least_changes (T : Tx K mg fn fa fdf) : PySem.W.keepIn K (.ref (He.ga K "least_changes")) = true := (T.d 8 (dd "least_changes" 20) rfl).kp
def N__law_right : List Str := [Str.ofString "pot", Str.ofString "letters", Str.ofString "row", Str.ofString "piece", Str.ofString "most", Str.ofString "due", Str.ofString "end", Str.ofString "least", Str.ofString "rows", Str.ofString "at", Str.ofString "many", Str.ofString "begin", Str.ofString "one", Str.ofString "other"]
def g__law_right : SM := (sSeq (sSet 1 (dCall F__law_of (aCons (eVar 0) (aCons (dLst false (aCons (eC (.t (.str (Str.ofString "ab")))) (aCons (eC (.t (.str (Str.ofString "abc")))) (aCons (eC (.t (.str (Str.ofString "a")))) aNil)))) aNil)))) (sSeq (sAsg (gT 3 (gsCons (gN 2) (gsCons (gN 3) (gsCons (gN 4) gsNil)))) (dTup (aCons (dCall F__law_row (aCons (eVar 0) (aCons (eVar 1) (aCons (eC (.t (.int 12))) aNil)))) (aCons (dCall F__law_row (aCons (eVar 0) (aCons (eVar 1) (aCons (eC (.t (.int 5))) aNil)))) (aCons (dCall F__law_take (aCons (eVar 0) (aCons (eC (.t (.int 6))) aNil))) aNil))))) (sSeq (sSet 5 (dLst true aNil)) (sSeq (sFor (iRg1 (aCons (dBin addP (dCW lenP (aCons (eVar 2) aNil)) (eC (.t (.int 1)))) aNil)) (gN 6) (sSeq (sSet 7 (dCW minR (aCons (dLc false (iRg1 (aCons (dBin addP (eVar 6) (eC (.t (.int 1)))) aNil)) (gN 11) tYesD (dCall F__law_least (aCons (eVar 3) (aCons (dSl false (eVar 2) (oSome (eVar 11)) (oSome (eVar 6))) aNil))) [11]) aNil))) (sDrop (dExt (eVar 5) (dIf (dTest (dBin leP (eVar 7) (eVar 4))) (dLst false (aCons (dTup (aCons (eVar 6) (aCons (eVar 7) aNil))) aNil)) (dLst false aNil)))))) (sSeq (sIf (dTest (dBin neP (dCB reprP (aCons (dCall F_nearly_at (aCons (eVar 2) (aCons (eVar 3) (aCons (eVar 4) aNil)))) aNil)) (dCB reprP (aCons (dCW tupP (aCons (eVar 5) aNil)) aNil)))) (sRet (eC (.t (.bool false)))) sNext) (sSeq (sSet 8 (dLst true aNil)) (sSeq (sFor (iRg1 (aCons (dBin addP (dBin subP (dCW lenP (aCons (eVar 2) aNil)) (dCW lenP (aCons (eVar 3) aNil))) (eC (.t (.int 1)))) aNil)) (gN 9) (sSeq (sSet 10 (dCW lenP (aCons (dLc false (iZipA (aCons (eVar 3) (aCons (dSl false (eVar 2) (oSome (eVar 9)) (oSome (dBin addP (eVar 9) (dCW lenP (aCons (eVar 3) aNil))))) aNil))) (gT 2 (gsCons (gN 12) (gsCons (gN 13) gsNil))) (dTest (dBin neP (eVar 12) (eVar 13))) (eC (.t (.int 1))) [12, 13]) aNil))) (sSeq (sDrop (dApp (eVar 8) (dTup (aCons (eVar 10) (aCons (eVar 9) aNil))))) (sIf (tOrD (dTest (dBin neP (dCB reprP (aCons (dCall F_unlike (aCons (eVar 3) (aCons (dSl false (eVar 2) (oSome (eVar 9)) (oSome (dBin addP (eVar 9) (dCW lenP (aCons (eVar 3) aNil))))) aNil))) aNil)) (dCB reprP (aCons (eVar 10) aNil)))) (dTest (dBin neP (dCall F_least_changes (aCons (eVar 3) (aCons (dSl false (eVar 2) (oSome (eVar 9)) (oSome (dBin addP (eVar 9) (dCW lenP (aCons (eVar 3) aNil))))) aNil))) (dCall F__law_least (aCons (eVar 3) (aCons (dSl false (eVar 2) (oSome (eVar 9)) (oSome (dBin addP (eVar 9) (dCW lenP (aCons (eVar 3) aNil))))) aNil)))))) (sRet (eC (.t (.bool false)))) sNext)))) (sSeq (sIf (dTest (dBin neP (dCB reprP (aCons (dCall F_nearest_in (aCons (eVar 2) (aCons (eVar 3) aNil))) aNil)) (dCB reprP (aCons (dIf (dTest (dBin neP (eVar 8) (dLst false aNil))) (dCW minR (aCons (eVar 8) aNil)) (eC (.t .none))) aNil)))) (sRet (eC (.t (.bool false)))) sNext) (sRet (dAnd (dBin eqP (dCall F_unlike (aCons (eVar 2) (aCons (dRevA false (eVar 2)) aNil))) (dCW lenP (aCons (dLc false (iZipA (aCons (eVar 2) (aCons (dRevA false (eVar 2)) aNil))) (gT 2 (gsCons (gN 12) (gsCons (gN 13) gsNil))) (dTest (dBin neP (eVar 12) (eVar 13))) (eC (.t (.int 1))) [12, 13]) aNil))) (dBin eqP (dCall F_least_changes (aCons (dRevA false (eVar 2)) (aCons (dRevA false (eVar 3)) aNil))) (dCall F_least_changes (aCons (eVar 2) (aCons (eVar 3) aNil))))))))))))))
def F__law_right : List D → M D := runF false 14 g__law_right
theorem sc__law_right : FnScope N__law_right [Str.ofString "pot"] (defScope (top 31)) := ⟨rfl, rfl, rfl, by decide +kernel, rfl, by decide +kernel, by decide +kernel⟩
theorem ok__law_right (T : Tx K mg fn fa fdf) : FnG P w K mg base 5 (He.ga K "_law_right") (fdf 18) [Str.ofString "pot"] F__law_right :=
  fn_g false (T.d 18 (dd "_law_right" 31) rfl) sc__law_right fun cdv A outer s H E WE hr hgd tk =>
    (ds_cons (dset 1 sc__law_right.nd (de_call (ok__law_of T) (hr.mono (by decide)) hgd rfl (m__law_of T) (k__law_of T) (b__law_of T) tk (da_cons (dv 0) (da_cons (de_lst false (da_cons de_str (da_cons de_str (da_cons de_str da_nil)))) da_nil)) (anum_cons (anum_cons anum_nil)))) (ds_cons (ds_asg (de_tup (da_cons (de_call (ok__law_row T) (hr.mono (by decide)) hgd rfl (m__law_row T) (k__law_row T) (b__law_row T) tk (da_cons (dv 0) (da_cons (dv 1) (da_cons de_int da_nil))) (anum_cons (anum_cons (anum_cons anum_nil)))) (da_cons (de_call (ok__law_row T) (hr.mono (by decide)) hgd rfl (m__law_row T) (k__law_row T) (b__law_row T) tk (da_cons (dv 0) (da_cons (dv 1) (da_cons de_int da_nil))) (anum_cons (anum_cons (anum_cons anum_nil)))) (da_cons (de_call (ok__law_take T) (hr.mono (by decide)) hgd rfl (m__law_take T) (k__law_take T) (b__law_take T) tk (da_cons (dv 0) (da_cons de_int da_nil)) (anum_cons (anum_cons anum_nil))) da_nil)))) (dg_tup rfl (dgs_cons (dgn 2 sc__law_right.nd) (dgs_cons (dgn 3 sc__law_right.nd) (dgs_cons (dgn 4 sc__law_right.nd) dgs_nil))))) (ds_cons (dset 5 sc__law_right.nd (de_lst true da_nil)) (ds_cons (ds_for (passes_of rfl) rfl (di_rg1 rfl (m_range T) (da_cons (de_bin op_addA pd_add (de_bw call_len pw_len rfl (m_len T) v_len (da_cons (dv 2) da_nil)) de_int) da_nil)) (dgn 6 sc__law_right.nd) (ds_cons (dset 7 sc__law_right.nd (de_bw (call_minR rfl hr.units) pw_minR rfl (m_min T) v_min (da_cons (de_lc false (own := [(Str.ofString "begin", 11)]) rfl sc__law_right.nd (di_rg1 rfl (m_range T) (da_cons (de_bin op_addA pd_add (dv 6) de_int) da_nil)) (blkOk_by (by kernel_rfl)) (fun _ _ _ _ _ => (dgn 11 sc__law_right.nd)) (fun _ _ _ _ _ => dts_nil) (fun _ _ _ _ _ => (de_call (ok__law_least T) (hr.mono (by decide)) hgd rfl (m__law_least T) (k__law_least T) (b__law_least T) takesF (da_cons (dv 3) (da_cons (de_sl false (dv 2) (do_some (dv 11)) (do_some (dv 6))) da_nil)) (anum_cons (anum_cons anum_nil)))) (by decide)) da_nil))) (ds_one (ds_expr (de_ext (dv 5) (de_if (dt_cmp op_leA pd_le (dv 7) (dv 4) (nomark _)) (de_lst false (da_cons (de_tup (da_cons (dv 6) (da_cons (dv 7) da_nil))) da_nil)) (de_lst false da_nil))))))) (ds_cons (ds_if (dt_cmp (op_neA hr.units) pd_ne (de_callB (call_reprA hgd (hu70 hr)) pc_repr rfl (m_repr T) v_repr (da_cons (de_call (ok_nearly_at T) (hr.mono (by decide)) hgd rfl (m_nearly_at T) (k_nearly_at T) (b_nearly_at T) tk (da_cons (dv 2) (da_cons (dv 3) (da_cons (dv 4) da_nil))) (anum_cons (anum_cons (anum_cons anum_nil)))) da_nil)) (de_callB (call_reprA hgd (hu70 hr)) pc_repr rfl (m_repr T) v_repr (da_cons (de_tw call_tuple_of pw_tup rfl (m_tuple T) v_tuple (da_cons (dv 5) da_nil)) da_nil)) (nomark _)) (ds_one (ds_ret de_bl)) ds_nil) (ds_cons (dset 8 sc__law_right.nd (de_lst true da_nil)) (ds_cons (ds_for (passes_of rfl) rfl (di_rg1 rfl (m_range T) (da_cons (de_bin op_addA pd_add (de_bin op_sub pd_sub (de_bw call_len pw_len rfl (m_len T) v_len (da_cons (dv 2) da_nil)) (de_bw call_len pw_len rfl (m_len T) v_len (da_cons (dv 3) da_nil))) de_int) da_nil)) (dgn 9 sc__law_right.nd) (ds_cons (dset 10 sc__law_right.nd (de_bw call_len pw_len rfl (m_len T) v_len (da_cons (de_lc false (own := [(Str.ofString "one", 12), (Str.ofString "other", 13)]) rfl sc__law_right.nd (di_zipA rfl (m_zip T) (da_cons (dv 3) (da_cons (de_sl false (dv 2) (do_some (dv 9)) (do_some (de_bin op_addA pd_add (dv 9) (de_bw call_len pw_len rfl (m_len T) v_len (da_cons (dv 3) da_nil))))) da_nil))) (blkOk_by (by kernel_rfl)) (fun _ _ _ _ _ => (dg_tup rfl (dgs_cons (dgn 12 sc__law_right.nd) (dgs_cons (dgn 13 sc__law_right.nd) dgs_nil)))) (fun _ _ _ _ _ => (dts_one (dt_cmp (op_neA hr.units) pd_ne (dv 12) (dv 13) (nomark _)))) (fun _ _ _ _ _ => de_int) (by decide)) da_nil))) (ds_cons (ds_expr (de_app (dv 8) (de_tup (da_cons (dv 10) (da_cons (dv 9) da_nil))))) (ds_one (ds_if (dt_w (dw_or (dt_cmp (op_neA hr.units) pd_ne (de_callB (call_reprA hgd (hu70 hr)) pc_repr rfl (m_repr T) v_repr (da_cons (de_call (ok_unlike T) (hr.mono (by decide)) hgd rfl (m_unlike T) (k_unlike T) (b_unlike T) tk (da_cons (dv 3) (da_cons (de_sl false (dv 2) (do_some (dv 9)) (do_some (de_bin op_addA pd_add (dv 9) (de_bw call_len pw_len rfl (m_len T) v_len (da_cons (dv 3) da_nil))))) da_nil)) (anum_cons (anum_cons anum_nil))) da_nil)) (de_callB (call_reprA hgd (hu70 hr)) pc_repr rfl (m_repr T) v_repr (da_cons (dv 10) da_nil)) (nomark _)) (dw_or1 (dt_cmp (op_neA hr.units) pd_ne (de_call (ok_least_changes T) (hr.mono (by decide)) hgd rfl (m_least_changes T) (k_least_changes T) (b_least_changes T) tk (da_cons (dv 3) (da_cons (de_sl false (dv 2) (do_some (dv 9)) (do_some (de_bin op_addA pd_add (dv 9) (de_bw call_len pw_len rfl (m_len T) v_len (da_cons (dv 3) da_nil))))) da_nil)) (anum_cons (anum_cons anum_nil))) (de_call (ok__law_least T) (hr.mono (by decide)) hgd rfl (m__law_least T) (k__law_least T) (b__law_least T) tk (da_cons (dv 3) (da_cons (de_sl false (dv 2) (do_some (dv 9)) (do_some (de_bin op_addA pd_add (dv 9) (de_bw call_len pw_len rfl (m_len T) v_len (da_cons (dv 3) da_nil))))) da_nil)) (anum_cons (anum_cons anum_nil))) (nomark _))))) (ds_one (ds_ret de_bl)) ds_nil))))) (ds_cons (ds_if (dt_cmp (op_neA hr.units) pd_ne (de_callB (call_reprA hgd (hu70 hr)) pc_repr rfl (m_repr T) v_repr (da_cons (de_call (ok_nearest_in T) (hr.mono (by decide)) hgd rfl (m_nearest_in T) (k_nearest_in T) (b_nearest_in T) tk (da_cons (dv 2) (da_cons (dv 3) da_nil)) (anum_cons (anum_cons anum_nil))) da_nil)) (de_callB (call_reprA hgd (hu70 hr)) pc_repr rfl (m_repr T) v_repr (da_cons (de_if (dt_cmp (op_neA hr.units) pd_ne (dv 8) (de_lst false da_nil) (nomark _)) (de_bw (call_minR rfl hr.units) pw_minR rfl (m_min T) v_min (da_cons (dv 8) da_nil)) de_non) da_nil)) (nomark _)) (ds_one (ds_ret de_bl)) ds_nil) (ds_one (ds_ret (de_and (de_cmp (op_eqA hr.units) pd_eq (de_call (ok_unlike T) (hr.mono (by decide)) hgd rfl (m_unlike T) (k_unlike T) (b_unlike T) tk (da_cons (dv 2) (da_cons (de_revA false (dv 2)) da_nil)) (anum_cons (anum_cons anum_nil))) (de_bw call_len pw_len rfl (m_len T) v_len (da_cons (de_lc false (own := [(Str.ofString "one", 12), (Str.ofString "other", 13)]) rfl sc__law_right.nd (di_zipA rfl (m_zip T) (da_cons (dv 2) (da_cons (de_revA false (dv 2)) da_nil))) (blkOk_by (by kernel_rfl)) (fun _ _ _ _ _ => (dg_tup rfl (dgs_cons (dgn 12 sc__law_right.nd) (dgs_cons (dgn 13 sc__law_right.nd) dgs_nil)))) (fun _ _ _ _ _ => (dts_one (dt_cmp (op_neA hr.units) pd_ne (dv 12) (dv 13) (nomark _)))) (fun _ _ _ _ _ => de_int) (by decide)) da_nil)) (nomark _)) (de_one (de_cmp (op_eqA hr.units) pd_eq (de_call (ok_least_changes T) (hr.mono (by decide)) hgd rfl (m_least_changes T) (k_least_changes T) (b_least_changes T) tk (da_cons (de_revA false (dv 2)) (da_cons (de_revA false (dv 3)) da_nil)) (anum_cons (anum_cons anum_nil))) (de_call (ok_least_changes T) (hr.mono (by decide)) hgd rfl (m_least_changes T) (k_least_changes T) (b_least_changes T) tk (da_cons (dv 2) (da_cons (dv 3) da_nil)) (anum_cons (anum_cons anum_nil))) (nomark _))))))))))))))
theorem b__law_right (T : Tx K mg fn fa fdf) : Binds K (fdf 18) [Str.ofString "pot"] [] := FunD.bindsN (T.d 18 (dd "_law_right" 31) rfl) fun _ _ _ _ _ _ us hl => match us, hl with | [_], _ => rfl
theorem k__law_right (T : Tx K mg fn fa fdf) : PySem.W.keepIn K (.ref (He.ga K "_law_right")) = true := (T.d 18 (dd "_law_right" 31) rfl).kp
def N_law : List Str := [Str.ofString "script", Str.ofString "place", Str.ofString "pot", Str.ofString "end", Str.ofString "lap"]
def g_law : SM := (sSeq (sIf (tOrD (dTest (dBin neP (dCall F_nearly_at (aCons (dBin mulP (eC (.t (.str (Str.ofString "a")))) (eC (.t (.int 400)))) (aCons (dBin mulP (eC (.t (.str (Str.ofString "a")))) (eC (.t (.int 60)))) (aCons (eC (.t (.int 0))) aNil)))) (dCW tupP (aCons (dLc false (iRg2 (aCons (eC (.t (.int 60))) (aCons (eC (.t (.int 401))) aNil))) (gN 3) tYesD (dTup (aCons (eVar 3) (aCons (eC (.t (.int 0))) aNil))) [3]) aNil)))) (tOrD (dTest (dBin neP (dCall F_nearest_in (aCons (dBin mulP (eC (.t (.str (Str.ofString "a")))) (eC (.t (.int 400)))) (aCons (eC (.t (.str (Str.ofString "b")))) aNil))) (dTup (aCons (eC (.t (.int 1))) (aCons (eC (.t (.int 0))) aNil))))) (dTest (dBin neP (dCall F_nearly_at (aCons (dBin mulP (eC (.t (.str (Str.ofString "a")))) (eC (.t (.int 5)))) (aCons (dBin mulP (eC (.t (.str (Str.ofString "b")))) (eC (.t (.int 60)))) (aCons (eC (.t (.int 59))) aNil)))) (dTup aNil))))) (sRet (eC (.t (.bool false)))) sNext) (sSeq (sFor (iAny (dCall F__law_cells (aCons (eVar 0) (aCons (eC (.t (.int 3))) aNil)))) (gN 1) (sSeq (sSet 2 (dCall F__law_pot (aCons (eVar 0) (aCons (eVar 1) aNil)))) (sIf (tNotD (dTru (dCW allP (aCons (dLc false (iRg1 (aCons (eC (.t (.int 6))) aNil)) (gN 4) tYesD (dCall F__law_right (aCons (eVar 2) aNil)) [4]) aNil)))) (sRet (eC (.t (.bool false)))) sNext))) (sRet (eC (.t (.bool true))))))
def F_law : List D → M D := runF false 5 g_law
theorem sc_law : FnScope N_law [Str.ofString "script"] (defScope (top 32)) := ⟨rfl, rfl, rfl, by decide +kernel, rfl, by decide +kernel, by decide +kernel⟩
theorem ok_law (T : Tx K mg fn fa fdf) : FnG P w K mg base 6 (He.ga K "law") (fdf 19) [Str.ofString "script"] F_law :=
  fn_g false (T.d 19 (dd "law" 32) rfl) sc_law fun cdv A outer s H E WE hr hgd tk =>
    (ds_cons (ds_if (dt_w (dw_or (dt_cmp (op_neA hr.units) pd_ne (de_call (ok_nearly_at T) (hr.mono (by decide)) hgd rfl (m_nearly_at T) (k_nearly_at T) (b_nearly_at T) tk (da_cons (de_bin op_mulA pd_mul de_str de_int) (da_cons (de_bin op_mulA pd_mul de_str de_int) (da_cons de_int da_nil))) (anum_cons (anum_cons (anum_cons anum_nil)))) (de_tw call_tuple_of pw_tup rfl (m_tuple T) v_tuple (da_cons (de_lc false (own := [(Str.ofString "end", 3)]) rfl sc_law.nd (di_rg2 rfl (m_range T) (da_cons de_int (da_cons de_int da_nil))) (blkOk_by (by kernel_rfl)) (fun _ _ _ _ _ => (dgn 3 sc_law.nd)) (fun _ _ _ _ _ => dts_nil) (fun _ _ _ _ _ => (de_tup (da_cons (dv 3) (da_cons de_int da_nil)))) (by decide)) da_nil)) (nomark _)) (dw_or (dt_cmp (op_neA hr.units) pd_ne (de_call (ok_nearest_in T) (hr.mono (by decide)) hgd rfl (m_nearest_in T) (k_nearest_in T) (b_nearest_in T) tk (da_cons (de_bin op_mulA pd_mul de_str de_int) (da_cons de_str da_nil)) (anum_cons (anum_cons anum_nil))) (de_tup (da_cons de_int (da_cons de_int da_nil))) (nomark _)) (dw_or1 (dt_cmp (op_neA hr.units) pd_ne (de_call (ok_nearly_at T) (hr.mono (by decide)) hgd rfl (m_nearly_at T) (k_nearly_at T) (b_nearly_at T) tk (da_cons (de_bin op_mulA pd_mul de_str de_int) (da_cons (de_bin op_mulA pd_mul de_str de_int) (da_cons de_int da_nil))) (anum_cons (anum_cons (anum_cons anum_nil)))) (de_tup da_nil) (nomark _)))))) (ds_one (ds_ret de_bl)) ds_nil) (ds_cons (ds_for (passes_of rfl) rfl (di_any (de_call (ok__law_cells T) (hr.mono (by decide)) hgd rfl (m__law_cells T) (k__law_cells T) (b__law_cells T) tk (da_cons (dv 0) (da_cons de_int da_nil)) (anum_cons (anum_cons anum_nil)))) (dgn 1 sc_law.nd) (ds_cons (dset 2 sc_law.nd (de_call (ok__law_pot T) (hr.mono (by decide)) hgd rfl (m__law_pot T) (k__law_pot T) (b__law_pot T) tk (da_cons (dv 0) (da_cons (dv 1) da_nil)) (anum_cons (anum_cons anum_nil)))) (ds_one (ds_if (dt_not (dt_tru (de_bw (cr_all rfl) pw_all rfl (m_all T) v_all (da_cons (de_lc false (own := [(Str.ofString "lap", 4)]) rfl sc_law.nd (di_rg1 rfl (m_range T) (da_cons de_int da_nil)) (blkOk_by (by kernel_rfl)) (fun _ _ _ _ _ => (dgn 4 sc_law.nd)) (fun _ _ _ _ _ => dts_nil) (fun _ _ _ _ _ => (de_call (ok__law_right T) (hr.mono (by decide)) hgd rfl (m__law_right T) (k__law_right T) (b__law_right T) takesF (da_cons (dv 2) da_nil) (anum_cons anum_nil))) (by decide)) da_nil)))) (ds_one (ds_ret de_bl)) ds_nil)))) (ds_one (ds_ret de_bl))))
theorem b_law (T : Tx K mg fn fa fdf) : Binds K (fdf 19) [Str.ofString "script"] [] := FunD.bindsN (T.d 19 (dd "law" 32) rfl) fun _ _ _ _ _ _ us hl => match us, hl with | [_], _ => rfl
theorem k_law (T : Tx K mg fn fa fdf) : PySem.W.keepIn K (.ref (He.ga K "law")) = true := (T.d 19 (dd "law" 32) rfl).kp
end
end Lw
set_option Elab.async false
set_option linter.all false
set_option maxRecDepth 100000
set_option maxHeartbeats 2000000
namespace Lw
open PySem PySem.Spec L2 DL
open PyProof.Rows hiding St
def AZ : List Nat := [97,98,99,100,101,102,103,104,105,106,107,108,109,110,111,112,113,114,115,116,117,118,119,120,121,122]
theorem az : Str.ofString "abcdefghijklmnopqrstuvwxyz" = tx AZ := by decide +kernel
def isRow : PyData → Bool
  | .str x => decide (x.length ≤ 400) && x.cps.toList.all (fun c => decide (c ∈ AZ))
  | _ => false
theorem fm_some {α β : Type} (f : α → β) (l : List α) : l.filterMap (fun x => some (f x)) = l.map f := by simp
theorem e_is_row_of (d : PyData) (h : Hd) (hd : ∀ x, d = .str x → x.length ≤ sizeLine) : F_is_row_of [.t d] h = some (.ok (.t (.bool (isRow d))) h) := by
  cases d with
  | str x =>
    have hx : x.length ≤ 16777216 := hd x rfl
    by_cases h4 : x.length ≤ 400
    · have lc := lc_pure (S := [some (.t (.str x)), none]) (h := h) (m := iAny (eVar 0)) (f := gN 1) (t := tYesD) (e := dBin inSP (eVar 1) (eC (.t (.str (Str.ofString "abcdefghijklmnopqrstuvwxyz"))))) (own := [1]) (xs := x.cps.toList) (enc := fun c => .str (tx [c])) (fun c => some (.bool (decide (c ∈ AZ)))) (by simp [iAny, signsP]) (by simpa [Str.length] using hx) (by
        intro c hc acc
        simp [az, inSP])
      have h5 : (x.length : Int) ≤ 400 := by omega
      rw [fm_some] at lc
      simp [F_is_row_of, g_is_row_of, hx, h5, lc, all_map, isRow, h4]
    · have h5 : ¬ (x.length : Int) ≤ 400 := by omega
      simp [F_is_row_of, g_is_row_of, hx, h5, h4, isRow]
  | _ => simp [F_is_row_of, g_is_row_of, isRow]
theorem e_check_row (x : Str) (h : Hd) (hd : isRow (.str x) = true) : F_check_row [.t (.str x)] h = some (.ok (.t .none) h) := by
  have hx : x.length ≤ 400 := by simp [isRow] at hd; exact hd.1
  simp [F_check_row, g_check_row, e_is_row_of (.str x) h (by intro y e; cases e; have : sizeLine = 16777216 := rfl; omega), hd]
theorem e_is_between (i a b : Int) (h : Hd) : F_is_between [.t (.int i), .t (.int a), .t (.int b)] h = some (.ok (.t (.bool (decide (a ≤ i ∧ i ≤ b)))) h) := by
  by_cases h1 : a ≤ i <;> by_cases h2 : i ≤ b <;> simp [F_is_between, g_is_between, F_is_integer, g_is_integer, h1, h2]
/-! pieces of texts -/
theorem tx_len (w : List Nat) : (tx w).length = w.length := by simp [Str.length]
theorem cut_tx (w : List Nat) (lo hi : Option Int) : cutS (tx w) lo hi = tx (cutP w lo hi) := by
  simp [cutS, cutP, Str.length]
theorem cut_ab (w : List Nat) (a b : Nat) : cutP w (some (a : Int)) (some (b : Int)) = (w.drop a).take (b - a) := by
  unfold cutP
  rw [HT.sIx_nat, HT.sIx_nat]
  by_cases ha : a ≤ w.length
  · rw [Nat.min_eq_left ha]
    by_cases hb : b ≤ w.length
    · rw [Nat.min_eq_left hb]
    · rw [Nat.min_eq_right (by omega), List.take_of_length_le (by simp), List.take_of_length_le (by simp only [List.length_drop]; omega)]
  · rw [Nat.min_eq_right (show w.length ≤ a by omega), List.drop_eq_nil_of_le (by omega), List.drop_eq_nil_of_le (by omega)]
    simp
theorem cut_to (w : List Nat) (b : Nat) : cutP w none (some (b : Int)) = w.take b := by
  unfold cutP
  rw [HT.sIx_nat, HT.sIx_none]
  by_cases hb : b ≤ w.length
  · rw [Nat.min_eq_left hb]; simp
  · rw [Nat.min_eq_right (by omega)]; simp [List.take_of_length_le, show w.length ≤ b by omega]
theorem cut_from (w : List Nat) (a : Nat) : cutP w (some (a : Int)) none = w.drop a := by
  unfold cutP
  rw [HT.sIx_nat, HT.sIx_none]
  by_cases ha : a ≤ w.length
  · rw [Nat.min_eq_left ha, List.take_of_length_le (by simp)]
  · rw [Nat.min_eq_right (show w.length ≤ a by omega), List.drop_eq_nil_of_le (by omega), List.drop_eq_nil_of_le (by omega)]
    simp
theorem sh_int (a : Int) : SeqAt.shaped (.int a) = true := by simp [SeqAt.shaped, PyData.canLay0, PyData.depth]
theorem sh_bool (a : Bool) : SeqAt.shaped (.bool a) = true := by simp [SeqAt.shaped, PyData.canLay0, PyData.depth]
@[simp] theorem eq_ss (a b : Str) : eqP (.str a) (.str b) = some (.bool (decide (a = b))) := rfl
@[simp] theorem ne_ss (a b : Str) : neP (.str a) (.str b) = some (.bool (!decide (a = b))) := rfl
@[simp] theorem eq_ii (a b : Int) : eqP (.int a) (.int b) = some (.bool (decide (a = b))) := by
  simp [eqP, sh_int, PyData.eqv]; rfl
@[simp] theorem ne_ii (a b : Int) : neP (.int a) (.int b) = some (.bool (!decide (a = b))) := by
  simp [neP, sh_int, PyData.eqv]; rfl
theorem tx_inj {a b : List Nat} : tx a = tx b ↔ a = b := by
  constructor
  · intro h; have := congrArg (fun s : Str => s.cps.toList) h; simpa using this
  · intro h; rw [h]
theorem atI_nat {α : Type} {xs : List α} {i : Nat} (h : i < xs.length) : atI xs (i : Int) = some xs[i] := by
  have h' : (i : Int) < xs.length := by omega
  simp [atI, ixN, h', List.getElem?_eq_getElem h]
theorem atI_int {α : Type} {xs : List α} {i : Int} {n : Nat} (e : i = (n : Int)) (h : n < xs.length) : atI xs i = some xs[n] := by rw [e, atI_nat h]
theorem tx_add (a b : List Nat) : tx a ++ tx b = tx (a ++ b) := by
  show (⟨_⟩ : Str) = _
  simp
/-! loops -/
theorem whileN_run {γ : Type} {t : DS → M Bool} {b : SM} (S : γ → DS) (h : γ → Hd) (I : γ → Prop) (c : γ → Bool) (μ : γ → Nat) (ht : ∀ x, I x → t (S x) (h x) = some (.ok (c x) (h x))) (hb : ∀ x, I x → c x = true → ∃ y, b (S x) (h x) = some (.nx, S y, h y) ∧ I y ∧ μ y < μ x) : ∀ (n : Nat) (x : γ), I x → μ x < n → ∃ y, whileN t b n (S x) (h x) = some (.nx, S y, h y) ∧ I y ∧ c y = false
  | 0, x, _, hn => absurd hn (Nat.not_lt_zero _)
  | n + 1, x, hx, hn => by
    cases e : c x with
    | false => exact ⟨x, by simp [whileN, ht x hx, e], hx, e⟩
    | true =>
      obtain ⟨y, e1, i1, m1⟩ := hb x hx e
      obtain ⟨z, e2, i2, c2⟩ := whileN_run S h I c μ ht hb n y i1 (by omega)
      exact ⟨z, by simp [whileN, ht x hx, e, e1, e2], i2, c2⟩
theorem forL_inv {f : PyData → DS → Option DS} {b : SM} (I : Nat → DS → Hd → Prop) : ∀ (xs : List PyData) (i : Nat) (S : DS) (h : Hd), I i S h → (∀ j x S h, xs[j]? = some x → I (i + j) S h → ∃ S1 S2 h2, f x S = some S1 ∧ b S1 h = some (.nx, S2, h2) ∧ I (i + j + 1) S2 h2) → ∃ S2 h2, forL f b xs S h = some (.nx, S2, h2) ∧ I (i + xs.length) S2 h2
  | [], i, S, h, hi, _ => ⟨S, h, rfl, hi⟩
  | x :: xs, i, S, h, hi, hs => by
    obtain ⟨S1, S2, h2, e1, e2, i2⟩ := hs 0 x S h rfl hi
    obtain ⟨S3, h3, e3, i3⟩ := forL_inv I xs (i + 1) S2 h2 i2 (fun j y T k e q => by
      obtain ⟨a, b', c, p, q', r⟩ := hs (j + 1) y T k e (by rw [show i + (j + 1) = i + 1 + j by omega]; exact q)
      exact ⟨a, b', c, p, q', by rw [show i + (j + 1) + 1 = i + 1 + j + 1 by omega] at r; exact r⟩)
    exact ⟨S3, h3, by simp [forL, e1, e2, e3], by rw [List.length_cons, show i + (xs.length + 1) = i + 1 + xs.length by omega]; exact i3⟩
theorem fu_eq : fu = 1099511627776 := rfl
/-! common_of -/
def comN : List Nat → List Nat → Nat
  | a :: as, b :: bs => if a = b then comN as bs + 1 else 0
  | _, _ => 0
theorem com_le : ∀ a b : List Nat, comN a b ≤ a.length ∧ comN a b ≤ b.length
  | [], b => by simp [comN]
  | _ :: _, [] => by simp [comN]
  | a :: as, b :: bs => by
    have := com_le as bs
    simp only [comN]
    split <;> simp <;> omega
theorem com_lt : ∀ (a b : List Nat) (k : Nat) (h1 : k < a.length) (h2 : k < b.length), k < comN a b → a[k] = b[k]
  | [], b, k, h1, _, _ => by simp at h1
  | _ :: _, [], k, _, h2, _ => by simp at h2
  | a :: as, b :: bs, k, h1, h2, h => by
    simp only [comN] at h
    split at h
    · cases k with
      | zero => simpa
      | succ k => simpa using com_lt as bs k (by simpa using h1) (by simpa using h2) (by omega)
    · omega
theorem com_at : ∀ (a b : List Nat) (h1 : comN a b < a.length) (h2 : comN a b < b.length), a[comN a b] ≠ b[comN a b]
  | [], b, h1, _ => by simp at h1
  | _ :: _, [], _, h2 => by simp at h2
  | a :: as, b :: bs, h1, h2 => by
    by_cases e : a = b
    · have e2 : comN (a :: as) (b :: bs) = comN as bs + 1 := by simp [comN, e]
      have := com_at as bs (by simp [e2] at h1; exact h1) (by simp [e2] at h2; exact h2)
      simpa [e2] using this
    · have e2 : comN (a :: as) (b :: bs) = 0 := by simp [comN, e]
      simpa [e2] using e
def ch (w : List Nat) (i : Nat) : Nat := w.getD i 0
theorem at_ch {w : List Nat} {i : Nat} (h : i < w.length) : atI w (i : Int) = some (ch w i) := by
  rw [atI_nat h]; simp [ch, h]
/-- j is a border of the first m signs -/
def Bo (w : List Nat) (m j : Nat) : Prop := j < m ∧ ∀ i, i < j → ch w i = ch w (m - j + i)
def Pi (w : List Nat) (m k : Nat) : Prop := Bo w m k ∧ ∀ j, Bo w m j → j ≤ k
theorem bo0 {w : List Nat} {m : Nat} (h : 0 < m) : Bo w m 0 := ⟨h, fun i hi => absurd hi (Nat.not_lt_zero _)⟩
theorem bo_suc {w : List Nat} {m j : Nat} : Bo w (m + 1) (j + 1) ↔ Bo w m j ∧ ch w j = ch w m := by
  constructor
  · rintro ⟨h1, h2⟩
    refine ⟨⟨by omega, fun i hi => ?_⟩, ?_⟩
    · have := h2 i (by omega)
      rwa [show m + 1 - (j + 1) + i = m - j + i by omega] at this
    · have := h2 j (by omega)
      rwa [show m + 1 - (j + 1) + j = m by omega] at this
  · rintro ⟨⟨h1, h2⟩, h3⟩
    refine ⟨by omega, fun i hi => ?_⟩
    rw [show m + 1 - (j + 1) + i = m - j + i by omega]
    by_cases e : i = j
    · subst e; rw [h3, show m - i + i = m by omega]
    · exact h2 i (by omega)
theorem bo_in {w : List Nat} {m k j : Nat} (hk : Bo w m k) (hj : Bo w k j) : Bo w m j := by
  refine ⟨Nat.lt_trans hj.1 hk.1, fun i hi => ?_⟩
  rw [hj.2 i hi, hk.2 (k - j + i) (by have := hj.1; omega)]
  congr 1
  have := hj.1; have := hk.1; omega
theorem bo_of {w : List Nat} {m k j : Nat} (hk : Bo w m k) (hj : Bo w m j) (l : j < k) : Bo w k j := by
  refine ⟨l, fun i hi => ?_⟩
  rw [hj.2 i hi, hk.2 (k - j + i) (by omega)]
  congr 1
  have := hk.1; omega
theorem set_endG {α : Type} {x y : α} : ∀ {l : List α}, (l ++ [x]).set l.length y = l ++ [y] := by
  intro l; induction l <;> simp_all
@[simp] theorem rdw_c {h : Hd} {ds : List PyData} : rdw (.c h.length) (h ++ [.lst ds]) = some (.ok (.list ds) (h ++ [.lst ds])) := by
  show rd (.c h.length) _ = _
  simp [rd]
/-- what border_lengths gives -/
def BLs (w : List Nat) (m : Nat) (F : List PyData) : Prop := ∀ j, j < m → ∃ k : Nat, F[j]? = some (.int (k : Nat)) ∧ Pi w (j + 1) k
theorem inner (w : List Nat) (m L : Nat) (F : List PyData) (h : Hd) (hw : w.length ≤ 4000) (hm : m < w.length) (hm0 : 0 < m) (hF : F.length = w.length) (hB : BLs w m F) (hL : Pi w m L) :
    ∃ k : Nat, sWhile fu (tAndD (dTest (dBin gtP (eVar 2) (eC (.t (.int 0))))) (dTest (dBin neP (dIx ixP (eVar 0) (eVar 3)) (dIx ixP (eVar 0) (eVar 2))))) (sSet 2 (dIx ixP (eVar 1) (dBin subP (eVar 2) (eC (.t (.int 1)))))) [some (.t (.str (tx w))), some (.c h.length), some (.t (.int (L : Nat))), some (.t (.int (m : Nat)))] (h ++ [.lst F])
      = some (.nx, [some (.t (.str (tx w))), some (.c h.length), some (.t (.int (k : Nat))), some (.t (.int (m : Nat)))], h ++ [.lst F]) ∧ Bo w m k ∧ (∀ j, Bo w m j → k < j → ch w j ≠ ch w m) ∧ (k = 0 ∨ ch w m = ch w k) := by
  have hw' : w.length ≤ 16777216 := by omega
  obtain ⟨k, e1, ⟨i1, i2⟩, e3⟩ := whileN_run (t := tAndD (dTest (dBin gtP (eVar 2) (eC (.t (.int 0))))) (dTest (dBin neP (dIx ixP (eVar 0) (eVar 3)) (dIx ixP (eVar 0) (eVar 2))))) (b := sSet 2 (dIx ixP (eVar 1) (dBin subP (eVar 2) (eC (.t (.int 1))))))
    (fun k : Nat => [some (.t (.str (tx w))), some (.c h.length), some (.t (.int (k : Nat))), some (.t (.int (m : Nat)))]) (fun _ => h ++ [.lst F]) (fun k => Bo w m k ∧ (∀ j, Bo w m j → k < j → ch w j ≠ ch w m)) (fun k => decide (0 < k) && !decide (ch w m = ch w k)) (fun k => k)
    (fun k ⟨hk, _⟩ => by
      have hk' : k < w.length := Nat.lt_trans hk.1 hm
      by_cases h0 : 0 < k
      · simp [tx_len, hw', h0, at_ch hm, at_ch hk', tx_inj]
      · simp [h0])
    (fun k ⟨hk, hk2⟩ hc => by
      simp at hc
      obtain ⟨p, f1, f2⟩ := hB (k - 1) (by have := hk.1; omega)
      rw [show k - 1 + 1 = k by omega] at f2
      have hlt : k - 1 < F.length := by have := hk.1; omega
      have f3 : atI F ((k : Int) - 1) = some (.int (p : Nat)) := by
        rw [atI_int (n := k - 1) (by omega) hlt, ← List.getElem?_eq_getElem hlt, f1]
      refine ⟨p, by simp [f3], ⟨bo_in hk f2.1, fun j bj lj => ?_⟩, f2.1.1⟩
      by_cases hjk : k < j
      · exact hk2 j bj hjk
      · by_cases hje : j = k
        · subst hje; exact fun q => hc.2 q.symm
        · exact absurd (f2.2 j (bo_of hk bj (by omega))) (by omega)) fu L ⟨hL.1, fun j bj lj => absurd (hL.2 j bj) (by omega)⟩ (by rw [fu_eq]; have := hL.1.1; omega)
  refine ⟨k, e1, i1, i2, ?_⟩
  simp at e3
  by_cases h0 : 0 < k
  · exact .inr (e3 h0)
  · exact .inl (by omega)
theorem pi_next {w : List Nat} {m k : Nat} (hm : 0 < m) (hk : Bo w m k) (hn : ∀ j, Bo w m j → k < j → ch w j ≠ ch w m) (hz : k = 0 ∨ ch w m = ch w k) : Pi w (m + 1) (if ch w m = ch w k then k + 1 else 0) := by
  by_cases e : ch w m = ch w k
  · rw [if_pos e]
    refine ⟨bo_suc.mpr ⟨hk, e.symm⟩, fun j hj => ?_⟩
    cases j with
    | zero => omega
    | succ j =>
      obtain ⟨h1, h2⟩ := bo_suc.mp hj
      by_cases q : k < j
      · exact absurd h2 (hn j h1 q)
      · omega
  · rw [if_neg e]
    have k0 : k = 0 := by rcases hz with q | q; exact q; exact absurd q e
    subst k0
    refine ⟨bo0 (by omega), fun j hj => ?_⟩
    cases j with
    | zero => omega
    | succ j =>
      obtain ⟨h1, h2⟩ := bo_suc.mp hj
      by_cases q : 0 < j
      · exact absurd h2 (hn j h1 q)
      · have : j = 0 := by omega
        subst this
        exact absurd h2.symm e
theorem rng_at {lo : Int} {n j : Nat} {x : PyData} (h : (rngD lo n)[j]? = some x) : j < n ∧ .int (lo + (j : Int)) = x := by
  simp only [rngD, List.getElem?_map] at h
  by_cases e : j < n
  · rw [List.getElem?_range e] at h
    exact ⟨e, by simpa using h⟩
  · rw [List.getElem?_eq_none (by simp; omega)] at h
    cases h
theorem pi_one {w : List Nat} : Pi w 1 0 := ⟨bo0 (by omega), fun j hj => by have := hj.1; omega⟩
theorem bls_one {w : List Nat} (h0 : 0 < w.length) : BLs w 1 (List.replicate w.length (.int 0)) := fun j hj => by
  have : j = 0 := by omega
  subst this
  exact ⟨0, by simp [h0], pi_one⟩
theorem turn (w : List Nat) (m L k : Nat) (F : List PyData) (h : Hd) (hw : w.length ≤ 4000) (hm : m < w.length) (hk : k < w.length) (hF : F.length = w.length)
    (e1 : sWhile fu (tAndD (dTest (dBin gtP (eVar 2) (eC (.t (.int 0))))) (dTest (dBin neP (dIx ixP (eVar 0) (eVar 3)) (dIx ixP (eVar 0) (eVar 2))))) (sSet 2 (dIx ixP (eVar 1) (dBin subP (eVar 2) (eC (.t (.int 1)))))) [some (.t (.str (tx w))), some (.c h.length), some (.t (.int (L : Nat))), some (.t (.int (m : Nat)))] (h ++ [.lst F])
      = some (.nx, [some (.t (.str (tx w))), some (.c h.length), some (.t (.int (k : Nat))), some (.t (.int (m : Nat)))], h ++ [.lst F])) :
    sSeq (sWhile fu (tAndD (dTest (dBin gtP (eVar 2) (eC (.t (.int 0))))) (dTest (dBin neP (dIx ixP (eVar 0) (eVar 3)) (dIx ixP (eVar 0) (eVar 2))))) (sSet 2 (dIx ixP (eVar 1) (dBin subP (eVar 2) (eC (.t (.int 1))))))) (sSeq (sSet 2 (dIf (dTest (dBin eqP (dIx ixP (eVar 0) (eVar 3)) (dIx ixP (eVar 0) (eVar 2)))) (dBin addP (eVar 2) (eC (.t (.int 1)))) (eC (.t (.int 0))))) (sSub (eVar 1) (eVar 3) (eVar 2))) [some (.t (.str (tx w))), some (.c h.length), some (.t (.int (L : Nat))), some (.t (.int (m : Nat)))] (h ++ [.lst F])
      = some (.nx, [some (.t (.str (tx w))), some (.c h.length), some (.t (.int ((if ch w m = ch w k then k + 1 else 0 : Nat) : Int))), some (.t (.int (m : Nat)))], h ++ [.lst (F.set m (.int ((if ch w m = ch w k then k + 1 else 0 : Nat) : Int)))]) := by
  have hw' : w.length ≤ 16777216 := by omega
  rw [sSeq_nx e1]
  have st := fun z => stIx_end (z := z) (h := h) (ds := F) (j := m) (by omega)
  by_cases q : ch w m = ch w k
  · simp only [if_pos q]
    simp [tx_len, hw', at_ch hm, at_ch hk, tx_inj, q, st]
  · simp only [if_neg q]
    simp [tx_len, hw', at_ch hm, at_ch hk, tx_inj, q, st]
theorem flt_split (p : Nat → Bool) (a b : Nat) (pa : p a = true) (hb : b ≤ a) (hn : ∀ j, b ≤ j → j < a → p j = false) : ∀ n, a < n → (List.range n).filter (fun j => p j && decide (b ≤ j)) = a :: (List.range n).filter (fun j => p j && decide (a < j))
  | 0, h => absurd h (Nat.not_lt_zero _)
  | n + 1, h => by
    rw [List.range_succ, List.filter_append, List.filter_append]
    by_cases e : a = n
    · subst e
      have h1 : (List.range a).filter (fun j => p j && decide (b ≤ j)) = [] := by
        rw [List.filter_eq_nil_iff]
        intro j hj
        rw [List.mem_range] at hj
        by_cases q : b ≤ j
        · simp [hn j q hj]
        · simp [q]
      have h2 : (List.range a).filter (fun j => p j && decide (a < j)) = [] := by
        rw [List.filter_eq_nil_iff]
        intro j hj
        rw [List.mem_range] at hj
        simp [show ¬ a < j by omega]
      rw [h1, h2]
      simp [pa, hb]
    · rw [flt_split p a b pa hb hn n (by omega)]
      have h3 : a < n := by omega
      have h4 : b ≤ n := by omega
      simp [List.filter_cons, h3, h4]
instance (w : List Nat) (m j : Nat) : Decidable (Bo w m j) := by unfold Bo; infer_instance
/-- the borders by their lengths -/
def bord (w : List Nat) : List Nat := (List.range w.length).filter fun j => decide (Bo w w.length j)
/-! shown -/
theorem len_app (a b : Str) : (a ++ b).length = a.length + b.length := strLen_append a b
theorem tuple_len (ts : List Str) : (tupleText ts).length ≤ piled ts + 4 := by
  unfold tupleText
  rw [len_app, len_app]
  have e1 : ((("(" : String) : Str)).length = 1 := rfl
  have e3 : (((if ts.length == 1 then ",)" else ")" : String) : Str)).length ≤ 2 := by split <;> decide
  rw [e1]
  by_cases h : ts = []
  · subst h
    have : (Str.join (", " : String) []).length = 0 := rfl
    omega
  · have := join_length_add ts h
    omega
theorem piled_le {B : Nat} : ∀ (xs : List PyData), (∀ x ∈ xs, x.shown.length ≤ B) → piled (PyData.shownAll xs) ≤ xs.length * (B + 2)
  | [], _ => by simp [PyData.shownAll, piled]
  | x :: xs, h => by
    have h1 := h x (by simp)
    have h2 := piled_le xs (fun y hy => h y (by simp [hy]))
    simp only [PyData.shownAll, piled_cons, List.length_cons]
    rw [Nat.add_mul]
    omega
/-- a plain item -/
def okE (B : Nat) (d : PyData) : Prop := d.showable = true ∧ d.canLay0 = true ∧ d.depth = 0 ∧ d.shown.length ≤ B
theorem okE_tup {B : Nat} {xs : List PyData} (h : ∀ x ∈ xs, okE B x) (hl : xs.length * (B + 2) ≤ 1000000) : okR (.tuple xs) = true := by
  have h1 : ∀ ys : List PyData, (∀ x ∈ ys, okE B x) → PyData.showableAll ys = true ∧ PyData.canLayAll0 ys = true ∧ PyData.depthAll ys = 0 := by
    intro ys
    induction ys with
    | nil => intro _; simp [PyData.showableAll, PyData.canLayAll0, PyData.depthAll]
    | cons y ys ih =>
      intro hy
      obtain ⟨a, b, c⟩ := ih (fun z hz => hy z (by simp [hz]))
      obtain ⟨p, q, r, _⟩ := hy y (by simp)
      simp [PyData.showableAll, PyData.canLayAll0, PyData.depthAll, a, b, c, p, q, r]
  obtain ⟨a, b, c⟩ := h1 xs h
  have h2 := tuple_len (PyData.shownAll xs)
  have h3 := piled_le xs (fun x hx => (h x hx).2.2.2)
  have h4 : (tupleText (PyData.shownAll xs)).length ≤ 16777216 := by omega
  simp [okR, SeqAt.shaped, PyData.showable, PyData.canLay0, PyData.depth, PyData.shown, a, b, c, h4]
theorem okR_one {B : Nat} {d : PyData} (h : okE B d) (hB : B ≤ 1000000) : okR d = true := by
  obtain ⟨a, b, c, e⟩ := h
  have : d.shown.length ≤ 16777216 := by omega
  simp [okR, SeqAt.shaped, a, b, c, this]
theorem okE_int (k : Nat) (hk : k < 1000) : okE 3 (.int (k : Nat)) := by
  have h : ∀ k : Fin 1000, (toString ((k.val : Nat) : Int)).length ≤ 3 := by decide +kernel
  have h2 : ∀ k : Fin 1000, ((toString ((k.val : Nat) : Int) : String) : Str).length ≤ 3 := by decide +kernel
  refine ⟨?_, by simp [PyData.canLay0], by simp [PyData.depth], ?_⟩
  · have : k.log2 < 1920 := by
      have := Nat.log2_le_self k
      omega
    simpa [PyData.showable] using this
  · have := h2 ⟨k, hk⟩
    simpa [PyData.shown] using this
/-- codes that a text may hold -/
def Cw (w : List Nat) : Prop := ∀ c ∈ w, c < 1114112
theorem okE_str {w : List Nat} {n : Nat} (hw : Cw w) (hn : w.length ≤ n) : okE (10 * n + 2) (.str (tx w)) := by
  have h1 := StrLaws.reprText_len (tx w) (fun c hc => by have := hw c (by simpa using hc); omega)
  have h2 := tx_len w
  refine ⟨by simp [PyData.showable], ?_, by simp [PyData.depth], ?_⟩
  · simp only [PyData.canLay0, PyData.strOk]
    rw [Array.all_eq_true_iff_forall_mem]
    intro x hx
    have := hw x (by simpa using hx)
    simpa using this
  · have e : (PyData.str (tx w)).shown = reprText (tx w) := by simp [PyData.shown]
    rw [e]
    omega
@[simp] theorem x_repr {d : PyData} : reprP [d] = if okR d then some (.str d.shown) else none := rfl
/-! borders and periods in the law's words -/
theorem ch_get {w : List Nat} {i : Nat} (h : i < w.length) : ch w i = w[i] := by simp [ch, h]
theorem bo_take {w : List Nat} {k : Nat} (hk : k < w.length) : Bo w w.length k ↔ w.take k = w.drop (w.length - k) := by
  constructor
  · rintro ⟨_, h⟩
    apply List.ext_getElem
    · simp; omega
    · intro i h1 h2
      simp at h1
      have := h i (by omega)
      rw [ch_get (by omega), ch_get (by omega)] at this
      simpa using this
  · intro h
    refine ⟨hk, fun i hi => ?_⟩
    rw [ch_get (by omega), ch_get (by omega)]
    have h1 : (w.take k)[i]? = (w.drop (w.length - k))[i]? := by rw [h]
    rw [List.getElem?_take_of_lt hi, List.getElem?_drop, List.getElem?_eq_getElem (by omega), List.getElem?_eq_getElem (by omega)] at h1
    simpa using h1
theorem bo_per {w : List Nat} {p : Nat} (hp : 0 < p) (hk : p ≤ w.length) : Bo w w.length (w.length - p) ↔ ∀ i, i < w.length - p → ch w i = ch w (i + p) := by
  constructor
  · rintro ⟨_, h⟩ i hi
    have := h i hi
    rwa [show w.length - (w.length - p) + i = i + p by omega] at this
  · intro h
    refine ⟨by omega, fun i hi => ?_⟩
    rw [show w.length - (w.length - p) + i = i + p by omega]
    exact h i hi
def perb (w : List Nat) (p : Nat) : Bool := (List.range (w.length - p)).all fun i => decide (ch w i = ch w (i + p))
theorem perb_iff {w : List Nat} {p : Nat} : perb w p = true ↔ ∀ i, i < w.length - p → ch w i = ch w (i + p) := by
  simp [perb]
/-- the periods -/
def pers (w : List Nat) : List Nat := ((List.range w.length).map (1 + ·)).filter (perb w)
theorem rev_range (n : Nat) : (List.range n).reverse = (List.range n).map fun i => n - 1 - i := by
  apply List.ext_getElem
  · simp
  · intro i h1 h2
    simp at h1 h2 ⊢
theorem bord_pers (w : List Nat) : (bord w).reverse.map (fun b => w.length - b) = pers w := by
  unfold bord pers
  rw [← List.filter_reverse, rev_range, List.filter_map, List.map_map, List.filter_map]
  have h1 : (List.range w.length).filter ((fun j => decide (Bo w w.length j)) ∘ fun i => w.length - 1 - i) = (List.range w.length).filter (perb w ∘ fun x => 1 + x) := by
    apply List.filter_congr
    intro i hi
    rw [List.mem_range] at hi
    simp only [Function.comp]
    rw [Bool.eq_iff_iff, decide_eq_true_eq, perb_iff, show w.length - 1 - i = w.length - (1 + i) by omega]
    exact bo_per (by omega) (by omega)
  rw [h1]
  apply List.map_congr_left
  intro i hi
  have := List.mem_range.mp (List.mem_filter.mp hi).1
  simp only [Function.comp]
  omega
/-- a row: letters, at most 400 -/
def Rw (w : List Nat) : Prop := (∀ c ∈ w, c ∈ AZ) ∧ w.length ≤ 400
theorem Rw.is {w : List Nat} (h : Rw w) : isRow (.str (tx w)) = true := by
  simp [isRow, tx_len, h.2, Str.length]
  exact h.1
theorem az_lt : ∀ c ∈ AZ, c < 1114112 := by decide
theorem Rw.cw {w : List Nat} (h : Rw w) : Cw w := fun c hc => az_lt c (h.1 c hc)
theorem e_chk {w : List Nat} (hw : Rw w) (h : Hd) : F_check_row [.t (.str (tx w))] h = some (.ok (.t .none) h) := e_check_row _ h hw.is
def wins (w : List Nat) (k : Nat) : List PyData := (List.range (w.length + 1 - k)).map fun at_ => .str (tx ((w.drop at_).take k))
/-- places -/
def plc (w p : List Nat) : List PyData := (List.range (w.length + 1 - p.length)).filterMap fun at_ => if (w.drop at_).take p.length = p then some (.int (at_ : Nat)) else none
theorem starts_tx (w p : List Nat) (a : Nat) (ha : a + p.length ≤ w.length) : Txt.startswith3 (tx w) (tx p) (a : Int) = decide ((w.drop a).take p.length = p) := by
  unfold Txt.startswith3
  have h1 : fromIndex (tx w).length (a : Int) = a := by
    unfold fromIndex
    rw [if_neg (by omega)]
    omega
  rw [h1, tx_len, tx_len, StrLaws.subAt_eq, tx_len]
  rw [decide_eq_true ha, Bool.true_and]
  simp
  rw [Bool.eq_iff_iff]
  simp
theorem rep_tx (w : List Nat) (k : Nat) : repS (tx w) k = tx (List.replicate k w).flatten := by simp [repS]
theorem rep_s {w : List Nat} (k : Nat) (h2 : k ≤ 400) (h3 : w.length * k ≤ 400) : mulP (.str (tx w)) (.int (k : Nat)) = some (.str (tx (List.replicate k w).flatten)) := by
  have q4 : w.length * k ≤ 16777216 := by omega
  have q6 : k < 9223372036854775808 := by omega
  simp -implicitDefEqProofs [q4, q6, rep_tx, tx_len]
theorem rep_i (n k : Nat) (h1 : n ≤ 400) (h2 : k ≤ 400) : mulP (.int (n : Nat)) (.int (k : Nat)) = some (.int ((n * k : Nat) : Int)) := by
  have q2 : n.log2 + k.log2 < 1000000 := by
    have := Nat.log2_le_self n; have := Nat.log2_le_self k; omega
  simp -implicitDefEqProofs [q2]
theorem bord_len (w : List Nat) : (bord w).length ≤ w.length := Nat.le_trans (List.length_filter_le _ _) (by simp)
/-! the law's own lists -/
section
variable {S : DS} {w p : List Nat} {h : Hd} {a0 a2 a3 a4 a5 a6 a7 a8 a9 a10 a11 a12 a13 a14 a15 : Option D}
theorem l_places (hw : w.length ≤ 400) (hp : p.length ≤ 400) :
    dLc false (iRg1 (aCons (dBin addP (dBin subP (dCW lenP (aCons (eVar 1) aNil)) (dCW lenP (aCons (eVar 2) aNil))) (eC (.t (.int 1)))) aNil)) (gN 10) (dTest (dBin eqP (dSl false (eVar 1) (oSome (eVar 10)) (oSome (dBin addP (eVar 10) (dCW lenP (aCons (eVar 2) aNil))))) (eVar 2))) (dCW intP (aCons (eVar 10) aNil)) [10] [a0, some (.t (.str (tx w))), some (.t (.str (tx p))), a3, a4, a5, a6, a7, a8, a9, a10, a11, a12, a13, a14, a15] h = some (.ok (.t (.list (plc w p))) h) := by
  have hw' : w.length ≤ 16777216 := by omega
  have hp' : p.length ≤ 16777216 := by omega
  refine lc_rng (lo := 0) (n := w.length + 1 - p.length) (fun at_ => if (w.drop at_).take p.length = p then some (.int (at_ : Nat)) else none) ?_ (by simp; omega) ?_
  · simp [x_inR, tx_len, hw', hp']
    exact rg1_h (by omega) (by omega) (by omega)
  · intro i hi acc
    have e : ((i : Int) + (p.length : Int)) = ((i + p.length : Nat) : Int) := by omega
    have e2 : cutP w (some (i : Int)) (some ((i : Int) + (p.length : Int))) = (w.drop i).take p.length := by rw [e, cut_ab, Nat.add_sub_cancel_left]
    by_cases q : (w.drop i).take p.length = p
    · simp [tx_len, hw', hp', cut_tx, e2, q]
    · simp [tx_len, hw', hp', cut_tx, e2, q, tx_inj]
theorem join0 : ∀ l : List (List Nat), Txt.join (tx []) (l.map tx) = tx l.flatten
  | [] => rfl
  | [x] => by rw [TL.join_eq]; simp [Str.join]
  | x :: y :: r => by
    have := join0 (y :: r)
    rw [TL.join_eq] at this ⊢
    show tx x ++ tx [] ++ Str.join (tx []) ((y :: r).map tx) = _
    rw [this, tx_add, tx_add]
    simp
theorem emp : Str.ofString "" = tx [] := by decide +kernel
theorem strs_tx (l : List (List Nat)) : strsP (l.map fun x => .str (tx x)) = some (l.map tx) := by
  induction l with
  | nil => rfl
  | cons x l ih => simp [strsP, ih]
theorem sum_tx (l : List (List Nat)) : ((l.map tx).map (·.length)).sum = l.flatten.length := by
  induction l with
  | nil => rfl
  | cons x l ih => simp only [List.map_cons, List.sum_cons, ih, List.flatten_cons, List.length_append, tx_len]
theorem join_tx (l : List (List Nat)) (hl : l.flatten.length ≤ 16777216) : joinP (.str (tx [])) [.list (l.map fun x => .str (tx x))] = some (.str (tx l.flatten)) := by
  show (strsP (l.map fun x => PyData.str (tx x))).bind _ = _
  rw [strs_tx]
  show (if ((l.map tx).map (·.length)).sum + (l.map tx).length * (tx []).length ≤ 16777216 then _ else _) = _
  rw [sum_tx, show (tx []).length = 0 from rfl, Nat.mul_zero, Nat.add_zero, if_pos hl, join0]
theorem joinM_at {ma : DS → M D} {h' : Hd} {l : List (List Nat)} (ea : ma S h = some (.ok (.t (.list (l.map fun x => .str (tx x)))) h')) (hl : l.flatten.length ≤ 16777216) : dM "str" joinP (eC (.t (.str (Str.ofString "")))) (aCons ma aNil) S h = some (.ok (.t (.str (tx l.flatten))) h') := by
  have := join_tx l hl
  simp [emp, tykP, ea, this]
theorem l_repeat {k : Nat} (hk : k ≤ 400) (hw : (List.replicate k w).flatten.length ≤ 16777216) :
    dM "str" joinP (eC (.t (.str (Str.ofString "")))) (aCons (dLc false (iRg1 (aCons (eVar 4) aNil)) (gN 14) tYesD (eVar 1) [14]) aNil) [a0, some (.t (.str (tx w))), a2, a3, some (.t (.int (k : Nat))), a5, a6, a7, a8, a9, a10, a11, a12, a13, a14, a15] h = some (.ok (.t (.str (tx (List.replicate k w).flatten))) h) := by
  refine joinM_at (h' := h) ?_ hw
  refine (lc_rngM (lo := 0) (n := k) (fun _ => .str (tx w)) ?_ ?_ ?_).trans ?_
  · have q : k < 4611686018427387904 := by omega
    simp -implicitDefEqProofs [q]
  · simp; omega
  · intro i hi acc
    simp
  · simp [List.map_const']
theorem take_com : ∀ (v w : List Nat) (k : Nat), k ≤ v.length → k ≤ w.length → (v.take k = w.take k ↔ k ≤ comN v w)
  | _, _, 0, _, _ => by simp
  | [], _, k + 1, h, _ => by simp at h
  | _ :: _, [], k + 1, _, h => by simp at h
  | a :: as, b :: bs, k + 1, h1, h2 => by
    have := take_com as bs k (by simpa using h1) (by simpa using h2)
    simp only [List.take_succ_cons, List.cons.injEq, comN]
    rw [this]
    split <;> simp_all
theorem maxI_is : ∀ (l : List Int) (m : Int), m ∈ l → (∀ x ∈ l, x ≤ m) → maxI l = m
  | [], _, h, _ => by simp at h
  | [n], m, h, _ => by simp at h; simp [maxI, h]
  | n :: k :: ns, m, h, hm => by
    show max n (maxI (k :: ns)) = m
    by_cases q : m ∈ k :: ns
    · rw [maxI_is (k :: ns) m q fun x hx => hm x (List.mem_cons_of_mem _ hx)]
      have := hm n (by simp)
      omega
    · have e : m = n := by
        rcases List.mem_cons.mp h with r | r
        · exact r
        · exact absurd r q
      have h3 : ∀ (l : List Int), l ≠ [] → (∀ x ∈ l, x ≤ m) → maxI l ≤ m := by
        intro l
        induction l with
        | nil => intro h; exact absurd rfl h
        | cons a l ih =>
          intro _ ha
          cases l with
          | nil => exact ha a (by simp)
          | cons b l =>
            show max a (maxI (b :: l)) ≤ m
            have h4 := ih (by simp) (fun x hx => ha x (List.mem_cons_of_mem _ hx))
            have h5 := ha a (by simp)
            omega
      have := h3 (k :: ns) (by simp) fun x hx => hm x (List.mem_cons_of_mem _ hx)
      omega
theorem l_common (hw : w.length ≤ 400) (hp : p.length ≤ 400) :
    dCW maxP (aCons (dBin addP (dLst false (aCons (eC (.t (.int 0))) aNil)) (dLc false (iRg2 (aCons (eC (.t (.int 1))) (aCons (dBin addP (dCW minP (aCons (dCW lenP (aCons (eVar 1) aNil)) (aCons (dCW lenP (aCons (eVar 2) aNil)) aNil))) (eC (.t (.int 1)))) aNil))) (gN 10) (dTest (dBin eqP (dSl false (eVar 1) oNone (oSome (eVar 10))) (dSl false (eVar 2) oNone (oSome (eVar 10))))) (eVar 10) [10])) aNil) [a0, some (.t (.str (tx w))), some (.t (.str (tx p))), a3, a4, a5, a6, a7, a8, a9, a10, a11, a12, a13, a14, a15] h = some (.ok (.t (.int (comN w p : Nat))) h) := by
  have hw' : w.length ≤ 16777216 := by omega
  have hp' : p.length ≤ 16777216 := by omega
  have hc := com_le w p
  obtain ⟨m, hm0⟩ : ∃ m, m = min w.length p.length := ⟨_, rfl⟩
  have e0 : (if p.length < w.length then (p.length : Int) else (w.length : Int)) = (m : Nat) := by split <;> omega
  have lc : dLc false (iRg2 (aCons (eC (.t (.int 1))) (aCons (dBin addP (dCW minP (aCons (dCW lenP (aCons (eVar 1) aNil)) (aCons (dCW lenP (aCons (eVar 2) aNil)) aNil))) (eC (.t (.int 1)))) aNil))) (gN 10) (dTest (dBin eqP (dSl false (eVar 1) oNone (oSome (eVar 10))) (dSl false (eVar 2) oNone (oSome (eVar 10))))) (eVar 10) [10] [a0, some (.t (.str (tx w))), some (.t (.str (tx p))), a3, a4, a5, a6, a7, a8, a9, a10, a11, a12, a13, a14, a15] h = some (.ok (.t (.list (((List.range (m)).filter fun i => decide (1 + i ≤ comN w p)).map fun i => .int ((1 + i : Nat) : Int)))) h) := by
    rw [lc_rng (lo := 1) (n := m) (fun i => if 1 + i ≤ comN w p then some (.int ((1 + i : Nat) : Int)) else none)]
    · congr 4
      rw [← List.filterMap_eq_map, List.filterMap_filter]
      congr 1
      funext i
      by_cases q : 1 + i ≤ comN w p <;> simp [q]
    · have q : m < 4611686018427387903 := by omega
      simp -implicitDefEqProofs [tx_len, hw', hp', e0, q, show DL.inR 1 = true from rfl]
    · simp; omega
    · intro i hi acc
      have e : ((1 : Int) + (i : Int)) = ((1 + i : Nat) : Int) := by omega
      have t := take_com w p (1 + i) (by omega) (by omega)
      rw [e]
      by_cases q : 1 + i ≤ comN w p
      · simp only [q, iff_true] at t
        simp [tx_len, hw', hp', cut_tx, cut_to, t, q, -Int.natCast_add]
      · simp only [q, iff_false] at t
        simp [tx_len, hw', hp', cut_tx, cut_to, t, q, tx_inj, -Int.natCast_add]
  have hlen : ((List.range (m)).filter fun i => decide (1 + i ≤ comN w p)).length ≤ 400 := Nat.le_trans (List.length_filter_le _ _) (by simp; omega)
  have hlen' : 1 + ((List.range (m)).filter fun i => decide (1 + i ≤ comN w p)).length ≤ 16777216 := by omega
  have hm : maxP [.list (.int 0 :: ((List.range (m)).filter fun i => decide (1 + i ≤ comN w p)).map fun i => .int ((1 + i : Nat) : Int))] = some (.int (comN w p : Nat)) := by
    have e1 : intsP (.int 0 :: ((List.range (m)).filter fun i => decide (1 + i ≤ comN w p)).map fun i => .int ((1 + i : Nat) : Int)) = some (0 :: ((List.range (m)).filter fun i => decide (1 + i ≤ comN w p)).map fun i => ((1 + i : Nat) : Int)) := by
      have := intsP_map (0 :: ((List.range (m)).filter fun i => decide (1 + i ≤ comN w p)).map fun i => ((1 + i : Nat) : Int))
      rw [List.map_cons, List.map_map] at this
      exact this
    show (intsP _).bind _ = _
    rw [e1]
    simp only [Option.bind_some]
    rw [if_neg (by simp), maxI_is _ (comN w p : Nat)]
    · by_cases q : comN w p = 0
      · simp [q]
      · refine List.mem_cons_of_mem _ (List.mem_map.mpr ⟨comN w p - 1, ?_, by omega⟩)
        rw [List.mem_filter, List.mem_range]
        exact ⟨by omega, by simp; omega⟩
    · intro x hx
      rcases List.mem_cons.mp hx with r | r
      · omega
      · obtain ⟨i, hi, rfl⟩ := List.mem_map.mp r
        have := (List.mem_filter.mp hi).2
        simp at this
        omega
  simp -implicitDefEqProofs [lc, hlen', hm, -Int.natCast_add]
end
def cel (a b c : Int) : Cell := .lst [.int a, .int b, .int c]
def Gp (k : Nat) (x : Cell) : Prop := ∃ a b c : Int, x = cel a b c ∧ 0 ≤ a ∧ a < 10 ^ 300 ∧ 0 ≤ b ∧ b < 2 ^ 61 ∧ 0 ≤ c ∧ c ≤ k
theorem lg {n k : Nat} (h : n < 2 ^ k) : n.log2 ≤ k := by
  by_cases h0 : n = 0
  · subst h0; simp
  · exact Nat.le_of_lt ((Nat.log2_lt h0).mpr h)
theorem mul_ok {i j : Int} (hi : i.natAbs < 2 ^ 200) (hj : j.natAbs < 2 ^ 200) : ∃ m, m = i * j ∧ mulP (.int i) (.int j) = some (.int m) := by
  have := lg hi; have := lg hj
  exact ⟨_, rfl, by show (if _ then _ else _) = _; rw [if_pos (by omega)]⟩
@[simp] theorem x_rdc {n : Nat} {h : Hd} : rdw (.c n) h = match h[n]? with
  | some (.lst ds) => some (.ok (.list ds) h)
  | some (.gone d) => some (.ok d h)
  | none => none := rfl
@[simp] theorem rdws_s {ns : List Int} {ds : List D} : rdws (.s ns :: ds) = bd (rdws ds) fun xs => ret (.list (ns.map .int) :: xs) := rfl
theorem tk_set {h : Hd} {n : Nat} {y : Cell} : (h.set n y).take h.length = h.set n y := List.take_of_length_le (by simp)
theorem prime_at (c : Int) : ∃ p : Int, atI [PyData.int 2147480419, .int 2147480411, .int 2147480407, .int 2147480347, .int 2147480281] (c % 5) = some (.int p) ∧ 0 < p ∧ p ≤ 2147483647 := by
  have h : c % 5 = 0 ∨ c % 5 = 1 ∨ c % 5 = 2 ∨ c % 5 = 3 ∨ c % 5 = 4 := by omega
  rcases h with e | e | e | e | e <;> rw [e]
  · exact ⟨_, rfl, by decide⟩
  · exact ⟨_, rfl, by decide⟩
  · exact ⟨_, rfl, by decide⟩
  · exact ⟨_, rfl, by decide⟩
  · exact ⟨_, rfl, by decide⟩
theorem pow3_ok {i : Int} (h0 : 0 ≤ i) (h : i.natAbs < 2 ^ 63) : ∃ m, m = i ^ 3 ∧ powP (.int i) (.int 3) = some (.int m) := by
  refine ⟨_, rfl, ?_⟩
  have h1 : Builtin.Int.intBits i ≤ 64 := by
    unfold Builtin.Int.intBits
    have := lg h
    split <;> omega
  show (if _ then _ else _) = _
  rw [if_pos (by constructor <;> omega)]
  rfl
theorem take_ok {n k u : Nat} {h : Hd} {x : Cell} (hx : h[n]? = some x) (g : Gp k x) (hk : k ≤ 10000) (hu : 0 < u) (hu2 : u ≤ 10000) :
    ∃ (r : Nat) (y : Cell), F__law_take [.c n, .t (.int (u : Nat))] h = some (.ok (.t (.int (r : Nat))) (h.set n y)) ∧ r < u ∧ Gp (k + 1) y := by
  obtain ⟨a, b, c, rfl, a0, a1, b0, b1, c0, c1⟩ := g
  have hl : n < h.length := (List.getElem?_eq_some_iff.mp hx).1
  have u0 : (0 : Int) < u := by omega
  have ul : (u : Int).natAbs.log2 < 9000 := by
    have := @lg u 20 (by omega)
    simp
    omega
  have fin : ∀ z : Int, 0 ≤ z % (u : Int) ∧ (z % (u : Int)).toNat < u := fun z => by
    have h1 := Int.emod_nonneg z (by omega : (u : Int) ≠ 0)
    have h2 := Int.emod_lt_of_pos z u0
    omega
  by_cases ha : 0 < a
  · obtain ⟨f1, f2⟩ := fin a
    refine ⟨(a % u).toNat, cel (a / u) b c, ?_, f2, a / u, b, c, rfl, Int.ediv_nonneg a0 (by omega), ?_, b0, b1, c0, by omega⟩
    · rw [Int.toNat_of_nonneg f1]
      have st : ∀ z, stIx (.c n) (.t (.int 0)) z h = some (.ok () (h.set n (.lst [z, .int b, .int c]))) := fun z => stIx_at (j := 0) hx (by simp)
      have fd : fdivP (.int a) (.int (u : Nat)) = some (.int (a / u)) := by
        show (if _ then _ else _) = _
        rw [if_pos ⟨u0, ul⟩]
      simp -implicitDefEqProofs [F__law_take, g__law_take, hx, cel, atI, ixN, ha, hu, fd, st, tk_set, -x_fdiv_i]
    · exact Int.lt_of_le_of_lt (Int.ediv_le_self u a0) a1
  · obtain ⟨d, hd⟩ : ∃ d, d = c + 1 := ⟨_, rfl⟩
    have st : stIx (.c n) (.t (.int 2)) (.int d) h = some (.ok () (h.set n (cel a b d))) := stIx_at (j := 2) hx (by simp)
    have hx1 : (h.set n (cel a b d))[n]? = some (.lst [.int a, .int b, .int d]) := by simp [List.getElem?_set, hl, cel]
    obtain ⟨q, pa, p0, p1⟩ := prime_at d
    obtain ⟨m1, hm1, e1⟩ := mul_ok (i := 39461) (j := d) (by decide) (by omega)
    have q1 : 0 ≤ m1 ∧ m1 < 10 ^ 10 := by omega
    obtain ⟨m2, hm2, e2⟩ := mul_ok (i := m1) (j := d) (by omega) (by omega)
    have q2 : 0 ≤ m2 ∧ m2 < 10 ^ 15 := by
      rw [hm2]
      refine ⟨Int.mul_nonneg q1.1 (by omega), ?_⟩
      have := Int.mul_le_mul (show m1 ≤ 10 ^ 10 by omega) (show d ≤ 10001 by omega) (by omega) (by omega)
      omega
    obtain ⟨m3, hm3, e3⟩ := pow3_ok (i := b + m2 + 2081) (by omega) (by omega)
    have r0 := Int.emod_nonneg m3 (show q ≠ 0 by omega)
    have r1 := Int.emod_lt_of_pos m3 p0
    obtain ⟨bl, hbl⟩ : ∃ bl, bl = m3 % q := ⟨_, rfl⟩
    obtain ⟨m4, hm4, e4⟩ := mul_ok (i := 389) (j := d) (by decide) (by omega)
    have s0 : 0 ≤ bl % 7247 ∧ bl % 7247 < 7247 := by omega
    obtain ⟨m5, hm5, e5⟩ := mul_ok (i := bl) (j := bl % 7247 + m4) (by omega) (by omega)
    obtain ⟨m6, hm6⟩ : ∃ m6, m6 = m5 % 2305843009213693907 := ⟨_, rfl⟩
    have e6 : fdivP (.int m6) (.int 157) = some (.int (m6 / 157)) := rfl
    obtain ⟨f1, f2⟩ := fin (m6 / 157)
    refine ⟨(m6 / 157 % u).toNat, cel a b d, ?_, f2, a, b, d, rfl, a0, a1, b0, b1, by omega, by omega⟩
    rw [Int.toNat_of_nonneg f1]
    rw [← hbl] at r0 r1
    have b4 : atI [PyData.int a, .int b, .int c] 0 = some (.int a) := rfl
    have b5 : atI [PyData.int a, .int b, .int c] 2 = some (.int c) := rfl
    have b6 : atI [PyData.int a, .int b, .int d] 1 = some (.int b) := rfl
    have b7 : atI [PyData.int a, .int b, .int d] 2 = some (.int d) := rfl
    have hx' : h[n]? = some (.lst [.int a, .int b, .int c]) := hx
    have z1 : (5 : Int) > 0 := by decide
    simp -implicitDefEqProofs [F__law_take, g__law_take, hx', hx1, b4, b5, b6, b7, ha, hu, ← hd, st, pa, e1, e2, e3, p0, ← hbl, e4, e5, ← hm6, e6, tk_set, -x_fdiv_i, -x_mul_i, -x_pow_i]
/-! pot -/
theorem sum_cut (ns : List Int) : ∃ s, sumP [.list (cutP (ns.map .int) none (some (1 : Int)))] = some (.int s) := by
  unfold cutP
  rw [← List.map_drop, ← List.map_take]
  exact ⟨_, by show (intsP _).map _ = _; rw [intsP_map]; rfl⟩
theorem pow_ok {i : Int} (j : Nat) (h : (Builtin.Int.intBits i : Int) * (j : Int) ≤ 2 ^ 27) : powP (.int i) (.int (j : Nat)) = some (.int (i ^ j)) := by
  show (if _ then _ else _) = _
  rw [if_pos ⟨by omega, h⟩]
  rfl
theorem tens : ∃ K1 K K2 : Int, powP (.int 10) (.int 60) = some (.int K1) ∧ powP (.int K1) (.int 5) = some (.int K) ∧ powP (.int 10) (.int 18) = some (.int K2) ∧ K = 10 ^ 300 :=
  ⟨10 ^ 60, 10 ^ 300, 10 ^ 18, pow_ok 60 (by decide +kernel), (pow_ok 5 (by decide +kernel)).trans (congrArg (fun i => some (PyData.int i)) (show ((10 ^ 60) ^ 5 : Int) = 10 ^ 300 by decide +kernel)), pow_ok 18 (by decide +kernel), rfl⟩
theorem mul_b {m : Int} (h0 : 0 ≤ m) (h : m < 10 ^ 300) (b : Prop) [Decidable b] : mulP (.int m) (.int (if b then 1 else 0)) = some (.int (if b then m else 0)) := by
  have h1 : m.natAbs < 2 ^ 1000 := by
    have e : (m.natAbs : Int) = m := Int.natAbs_of_nonneg h0
    have h2 : ((m.natAbs : Nat) : Int) < ((2 ^ 1000 : Nat) : Int) := by
      rw [e]
      exact Int.lt_trans h (by decide +kernel)
    exact Int.ofNat_lt.mp h2
  have h3 := lg h1
  show (if _ then _ else _) = _
  have h4 : (if b then (1 : Int) else 0).natAbs.log2 = 0 := by split <;> rfl
  rw [h4, if_pos (by omega)]
  split <;> simp
theorem sSet_at {i : Nat} {m : DS → M D} {S : DS} {h h' : Hd} {d : D} (e : m S h = some (.ok d h')) : sSet i m S h = some (.nx, S.set i (some d), h') := by
  simp [e]
theorem pot_ok (ns : List Int) (place : Nat) (hp : place ≤ 10) (h : Hd) : ∃ x, F__law_pot [.s ns, .t (.int (place : Nat))] h = some (.ok (.c h.length) (h ++ [x])) ∧ Gp 0 x := by
  obtain ⟨v, hv⟩ : ∃ v : Int, (dIf (dTest (dBin ltP (eVar 1) (dCW lenP (aCons (eVar 0) aNil)))) (dIx ixP (eVar 0) (eVar 1)) (dBin addP (dBin addP (dBin modP (dCW sumP (aCons (dSl false (eVar 0) oNone (oSome (eC (.t (.int 1))))) aNil)) (eC (.t (.int 1000721)))) (dBin mulP (eC (.t (.int 5303))) (eVar 1))) (eC (.t (.int 733))))) [some (.s ns), some (.t (.int (place : Nat))), none, none, none] h = some (.ok (.t (.int v)) h) := by
    by_cases q : place < ns.length
    · have e : atI (ns.map PyData.int) (place : Int) = some (.int ns[place]) := by
        rw [atI_nat (by simpa using q)]; simp
      exact ⟨ns[place], by simp -implicitDefEqProofs [q, e, -x_mul_i]⟩
    · obtain ⟨s, hs⟩ := sum_cut ns
      obtain ⟨m, _, hm⟩ := mul_ok (i := 5303) (j := (place : Nat)) (by decide) (by omega)
      exact ⟨s % 1000721 + m + 733, by simp -implicitDefEqProofs [q, hs, hm, slM, -x_mul_i]⟩
  obtain ⟨K1, K, K2, e7, e8, e9, hK⟩ := tens
  obtain ⟨u, hu⟩ : ∃ u, u = (if v < 0 then -v else v) := ⟨_, rfl⟩
  obtain ⟨g1, g2⟩ : 0 ≤ u % K ∧ u % K < 10 ^ 300 := by
    have k0 : 0 < K := by rw [hK]; decide +kernel
    refine ⟨Int.emod_nonneg _ (Int.ne_of_gt k0), ?_⟩
    rw [← hK]
    exact Int.emod_lt_of_pos _ k0
  have k0 : 0 < K := by rw [hK]; decide +kernel
  obtain ⟨w, hw⟩ : ∃ w, w = u % K := ⟨_, rfl⟩
  rw [← hw] at g1 g2
  obtain ⟨t, ht⟩ : ∃ t, t = v % 2305843009213693951 := ⟨_, rfl⟩
  have t0 : 0 ≤ t ∧ t < 2305843009213693951 := by omega
  obtain ⟨m1, hm1, e1⟩ := mul_ok (i := t) (j := 28411) (by omega) (by decide)
  obtain ⟨m2, hm2, e2⟩ := mul_ok (i := 7723) (j := (place : Nat)) (by decide) (by omega)
  obtain ⟨m3, hm3, e3⟩ := mul_ok (i := m2) (j := (place : Nat)) (by omega) (by omega)
  have mb := mul_b g1 g2 (K2 ≤ u)
  obtain ⟨ow, ho⟩ : ∃ ow, ow = (if K2 ≤ u then w else 0) := ⟨_, rfl⟩
  rw [← ho] at mb
  have ho2 : 0 ≤ ow ∧ ow < 10 ^ 300 := by
    rw [ho]
    split
    · exact ⟨g1, g2⟩
    · exact ⟨Int.le_refl _, by decide +kernel⟩
  have b0 := Int.emod_nonneg (m1 + m3 + 1621) (show (2305843009213693921 : Int) ≠ 0 by decide)
  have b1 := Int.emod_lt_of_pos (m1 + m3 + 1621) (show (0 : Int) < 2305843009213693921 by decide)
  refine ⟨cel ow ((m1 + m3 + 1621) % 2305843009213693921) 0, ?_, ow, _, 0, rfl, ho2.1, ho2.2, b0, by omega, by decide, by decide⟩
  have s1 := sSet_at (i := 2) hv
  simp only [List.set_cons_succ, List.set_cons_zero] at s1
  have s2 : ∀ a2 a3 a4 : Option D, sSet 3 (dBin mulP (dBin modP (dCW intP (aCons (dCW absP (aCons (eVar 2) aNil)) aNil)) (dBin powP (dBin powP (eC (.t (.int 10))) (eC (.t (.int 60)))) (eC (.t (.int 5))))) (dCW intP (aCons (dBin geP (dCW absP (aCons (eVar 2) aNil)) (dBin powP (eC (.t (.int 10))) (eC (.t (.int 18))))) aNil))) [some (.s ns), some (.t (.int (place : Nat))), some (.t (.int v)), a3, a4] h = some (.nx, [some (.s ns), some (.t (.int (place : Nat))), some (.t (.int v)), some (.t (.int ow)), a4], h) := by
    intro a2 a3 a4
    simp -implicitDefEqProofs [e7, e8, e9, k0, ← hu, ← hw, mb, -x_mul_i, -x_pow_i]
  have s3 : ∀ a3 a4 : Option D, sSet 4 (dBin modP (dCW intP (aCons (eVar 2) aNil)) (eC (.t (.int 2305843009213693951)))) [some (.s ns), some (.t (.int (place : Nat))), some (.t (.int v)), a3, a4] h = some (.nx, [some (.s ns), some (.t (.int (place : Nat))), some (.t (.int v)), a3, some (.t (.int t))], h) := by
    intro a3 a4
    simp -implicitDefEqProofs [← ht]
  have s4 : sRet (dLst true (aCons (eVar 3) (aCons (dBin modP (dCW intP (aCons (dBin addP (dBin addP (dBin mulP (eVar 4) (eC (.t (.int 28411)))) (dBin mulP (dBin mulP (eC (.t (.int 7723))) (eVar 1)) (eVar 1))) (eC (.t (.int 1621)))) aNil)) (eC (.t (.int 2305843009213693921)))) (aCons (eC (.t (.int 0))) aNil)))) [some (.s ns), some (.t (.int (place : Nat))), some (.t (.int v)), some (.t (.int ow)), some (.t (.int t))] h = some (.rt (.c h.length), [some (.s ns), some (.t (.int (place : Nat))), some (.t (.int v)), some (.t (.int ow)), some (.t (.int t))], h ++ [cel ow ((m1 + m3 + 1621) % 2305843009213693921) 0]) := by
    simp -implicitDefEqProofs [e1, e2, e3, cel, -x_mul_i]
  have e : g__law_pot [some (.s ns), some (.t (.int (place : Nat))), none, none, none] h = some (.rt (.c h.length), [some (.s ns), some (.t (.int (place : Nat))), some (.t (.int v)), some (.t (.int ow)), some (.t (.int t))], h ++ [cel ow ((m1 + m3 + 1621) % 2305843009213693921) 0]) := by
    unfold g__law_pot
    rw [sSeq_nx s1, sSeq_nx (s2 none none none), sSeq_nx (s3 _ none), s4]
  simp -implicitDefEqProofs [F__law_pot, e, cel, x_out_cc]
theorem Gp.mono {k l : Nat} {x : Cell} (g : Gp k x) (h : k ≤ l) : Gp l x := by
  obtain ⟨a, b, c, e, a0, a1, b0, b1, c0, c1⟩ := g
  exact ⟨a, b, c, e, a0, a1, b0, b1, c0, by omega⟩
theorem take_at {n k : Nat} {u : Int} {h : Hd} {x : Cell} (un : Nat) (e : u = (un : Int)) (hx : h[n]? = some x) (g : Gp k x) (hk : k ≤ 10000) (hu : 0 < un) (hu2 : un ≤ 10000) :
    ∃ (r : Nat) (y : Cell), F__law_take [.c n, .t (.int u)] h = some (.ok (.t (.int (r : Nat))) (h.set n y)) ∧ r < un ∧ Gp (k + 1) y := by
  subst e
  exact take_ok hx g hk hu hu2
theorem set_at' {h : Hd} {n : Nat} {x y : Cell} (hx : h[n]? = some x) : (h.set n y)[n]? = some y := by
  have hl : n < h.length := (List.getElem?_eq_some_iff.mp hx).1
  simp [List.getElem?_set, hl]
theorem law_of_ok {n k : Nat} {h : Hd} {x : Cell} {xs : List PyData} (hx : h[n]? = some x) (g : Gp k x) (hk : k ≤ 10000) (hu : 0 < xs.length) (hu2 : xs.length ≤ 10000) :
    ∃ (r : Nat) (z : PyData) (y : Cell), F__law_of [.c n, .t (.list xs)] h = some (.ok (.t z) (h.set n y)) ∧ xs[r]? = some z ∧ Gp (k + 1) y := by
  obtain ⟨r, y, e, hr, gy⟩ := take_ok hx g hk hu hu2
  refine ⟨r, xs[r], y, ?_, List.getElem?_eq_getElem hr, gy⟩
  simp -implicitDefEqProofs [F__law_of, g__law_of, e, atI_nat hr, tk_set]
theorem lot_tx : Str.ofString "abcdef" = tx [97, 98, 99, 100, 101, 102] := by decide +kernel
theorem cs_of {ys : List PyData} (h : ∀ y ∈ ys, ∃ c, y = .str (tx [c]) ∧ c ∈ AZ) : ∃ cs : List Nat, ys = (cs.map fun c => [c]).map (fun x => .str (tx x)) ∧ ∀ c ∈ cs, c ∈ AZ := by
  induction ys with
  | nil => exact ⟨[], rfl, by simp⟩
  | cons y ys ih =>
    obtain ⟨c, e, hc⟩ := h y (by simp)
    obtain ⟨cs, e2, hcs⟩ := ih fun z hz => h z (by simp [hz])
    refine ⟨c :: cs, by simp [e, e2], ?_⟩
    intro d hd
    rcases List.mem_cons.mp hd with q | q
    · exact q ▸ hc
    · exact hcs d q
theorem flat_one (cs : List Nat) : (cs.map fun c => [c]).flatten = cs := by
  induction cs <;> simp_all
theorem flat_len (k : Nat) (w : List Nat) : (List.replicate k w).flatten.length = k * w.length := by simp
theorem fdiv_nat {a b : Nat} (h0 : 0 < b) (h1 : b < 2 ^ 20) : fdivP (.int (a : Nat)) (.int (b : Nat)) = some (.int ((a / b : Nat) : Int)) := by
  have lgr : (b : Int).natAbs.log2 < 9000 := by
    have := lg h1
    simp
    omega
  show (if _ then _ else _) = _
  rw [if_pos ⟨by omega, lgr⟩]
  rfl
theorem sl_ab {S : DS} {h : Hd} {ma : DS → M D} {ml mh : DS → M (Option Int)} {F : List Nat} {lo hi : Option Int} (em : ma S h = some (.ok (.t (.str (tx F))) h)) (el : ml S h = some (.ok lo h)) (eh : mh S h = some (.ok hi h)) (fl : F.length ≤ 16777216) : dSl false ma ml mh S h = some (.ok (.t (.str (tx (cutP F lo hi)))) h) := by
  simp -implicitDefEqProofs [em, el, eh, tx_len, fl, cut_tx]
theorem lcE_call {f : PyData → DS → Option DS} {F : List D → M D} {ms : DS → M (List D)} {own : List Nat} {S S1 : DS} {x z : PyData} {ds : List D} {h : Hd} (hg : f x (wipeD S own) = some S1) (hm : ms S1 h = some (.ok ds h)) (hF : F ds h = some (.ok (.t z) h)) : lcE f tYesD (dCall F ms) own S x h = some (.ok (some z) h) := by
  simp -implicitDefEqProofs [hg, hm, hF]
theorem ok_tx {w : List Nat} (hw : Cw w) : PyData.strOk (tx w) = true := by
  unfold PyData.strOk
  rw [Array.all_eq_true_iff_forall_mem]
  intro x hx
  have := hw x (by simpa using hx)
  simpa using this
theorem ok_shb (b : Bool) : PyData.strOk (PyData.bool b).shown = true := by cases b <;> decide +kernel
theorem lay_strs {γ : Type} {l : List γ} {f : γ → Str} (hf : ∀ x ∈ l, PyData.strOk (f x) = true) : PyData.canLayAll0 (l.map fun x => .str (f x)) = true ∧ PyData.depthAll (l.map fun x => PyData.str (f x)) = 0 := by
  induction l with
  | nil => simp [PyData.canLayAll0, PyData.depthAll]
  | cons y ys ih =>
    have := hf y (by simp)
    simp [PyData.canLayAll0, PyData.depthAll, ih (fun z hz => hf z (by simp [hz])), PyData.canLay0, PyData.depth, this]
theorem sh_strs {γ : Type} {l : List γ} {f : γ → Str} (hf : ∀ x ∈ l, PyData.strOk (f x) = true) : SeqAt.shaped (.list (l.map fun x => .str (f x))) = true := by
  simp [SeqAt.shaped, PyData.canLay0, PyData.depth, lay_strs hf]
theorem alike_strs {γ : Type} {l : List γ} {f : γ → Str} : alikeB (l.map fun x => .str (f x)) = true := by
  simp [alikeB, PySem.W.alike]
theorem minD_str : ∀ (l : List (List Nat)) (x m : List Nat), (m = x ∨ m ∈ l) → (∀ y ∈ l, ¬ y < m) → ¬ x < m → PySem.W.minD (.str (tx x)) (l.map fun y => .str (tx y)) = .str (tx m)
  | [], x, m, h, _, _ => by
    rcases h with h | h
    · rw [h]; rfl
    · simp at h
  | y :: l, x, m, h, h1, h2 => by
    have ih := minD_str l
    unfold PySem.W.minD at ih ⊢
    rw [List.map_cons, List.foldl_cons, PySem.W.dataLt_str]
    have e : (decide ((tx y).cps.toList < (tx x).cps.toList)) = decide (y < x) := by simp
    rw [e]
    have hy : ¬ y < m := h1 y (by simp)
    by_cases q : y < x
    · simp only [q, decide_true, if_true]
      refine ih y m ?_ (fun z hz => h1 z (by simp [hz])) hy
      rcases h with h | h
      · exact absurd (h ▸ q) hy
      · exact (List.mem_cons.mp h)
    · simp only [q, decide_false]
      refine ih x m ?_ (fun z hz => h1 z (by simp [hz])) h2
      rcases h with h | h
      · exact Or.inl h
      · rcases List.mem_cons.mp h with h | h
        · subst h
          exact Or.inl (List.le_antisymm (List.not_lt.mp h2) (List.not_lt.mp q))
        · exact Or.inr h
theorem okR_int {k : Nat} (hk : k < 1000) : okR (.int (k : Nat)) = true := okR_one (okE_int k hk) (by omega)
theorem okR_bool (b : Bool) : okR (.bool b) = true := by cases b <;> decide
theorem gt_one (a b : Nat) : gtP (.str (tx [a])) (.str (tx [b])) = some (.bool (decide (b < a))) := by
  show some (PyData.bool (decide ([b] < [a]))) = _
  congr 2
  rw [decide_eq_decide]
  constructor
  · intro h
    cases h with
    | rel h => exact h
    | cons h => cases h
  · intro h; exact List.Lex.rel h
theorem tx_cps (x : Str) : tx x.cps.toList = x := by cases x; rfl
theorem str_map {γ : Type} (l : List γ) (f : γ → Str) : strsP (l.map fun x => .str (f x)) = some (l.map f) := by
  induction l with
  | nil => rfl
  | cons x l ih => simp [strsP, ih]
theorem ints_none {γ : Type} (l : List γ) (f : γ → Str) (h : l ≠ []) : intsP (l.map fun x => .str (f x)) = none := by
  cases l with
  | nil => exact absurd rfl h
  | cons x l => rfl
@[simp] theorem x_len_t {ds : List PyData} : lenP [.tuple ds] = some (.int ds.length) := rfl
theorem if_or {S : DS} {h : Hd} {A B : DS → M Bool} {X : SM} (a : A S h = some (.ok false h)) (b : B S h = some (.ok false h)) : sIf (tOrD A B) X sNext S h = some (.nx, S, h) := by
  simp -implicitDefEqProofs [a, b]
theorem if_no {S : DS} {h : Hd} {A : DS → M Bool} {X : SM} (a : A S h = some (.ok false h)) : sIf A X sNext S h = some (.nx, S, h) := by
  simp -implicitDefEqProofs [a]
theorem or_at {S : DS} {h : Hd} {A B : DS → M Bool} (a : A S h = some (.ok false h)) (b : B S h = some (.ok false h)) : tOrD A B S h = some (.ok false h) := by
  simp -implicitDefEqProofs [a, b]
theorem and_at {S : DS} {h : Hd} {A B : DS → M Bool} {c : Bool} (a : A S h = some (.ok c h)) (b : c = true → B S h = some (.ok false h)) : tAndD A B S h = some (.ok false h) := by
  cases c with
  | true => simp -implicitDefEqProofs [a, b rfl]
  | false => simp -implicitDefEqProofs [a]
theorem test_at {S : DS} {h : Hd} {A : DS → M D} {b : Bool} (a : A S h = some (.ok (.t (.bool b)) h)) : dTest A S h = some (.ok b h) := by
  simp -implicitDefEqProofs [a]
theorem ne_same (a : Str) : neP (.str a) (.str a) = some (.bool false) := by simp
theorem ne_selfS {d : PyData} (h : SeqAt.shaped d = true) : neP d d = some (.bool false) := by
  have h2 := SeqAt.eqv_refl d (SeqAt.canLay_of_shaped h)
  cases d <;> simp [neP, h, h2]
theorem eq_selfS {d : PyData} (h : SeqAt.shaped d = true) : eqP d d = some (.bool true) := by
  have h2 := SeqAt.eqv_refl d (SeqAt.canLay_of_shaped h)
  cases d <;> simp [eqP, h, h2]
theorem repr_at {S : DS} {h : Hd} {A : DS → M (List D)} {d : PyData} (a : A S h = some (.ok [.t d] h)) (ok : okR d = true) : dCB reprP A S h = some (.ok (.t (.str d.shown)) h) := by
  simp -implicitDefEqProofs [a, ok]
theorem set_at1 {S : DS} {h h' : Hd} {i : Nat} {m : DS → M D} {d : D} (e : m S h = some (.ok d h')) : sSet i m S h = some (.nx, S.set i (some d), h') := by
  rw [x_sSet, sB_ok e]
theorem one_at {S : DS} {h h' : Hd} {m : DS → M D} {d : D} (e : m S h = some (.ok d h')) : aCons m aNil S h = some (.ok [d] h') := by
  simp -implicitDefEqProofs [e]
theorem tup_at {S : DS} {h : Hd} {m : DS → M D} {ds : List PyData} (e : m S h = some (.ok (.t (.list ds)) h)) : dCW tupP (aCons m aNil) S h = some (.ok (.t (.tuple ds)) h) := by
  simp -implicitDefEqProofs [e]
theorem cut_toL (xs : List PyData) (b : Nat) : cutP xs none (some (b : Int)) = xs.take b := by
  unfold cutP
  rw [HT.sIx_nat, HT.sIx_none]
  by_cases hb : b ≤ xs.length
  · rw [Nat.min_eq_left hb]; simp
  · rw [Nat.min_eq_right (by omega)]; simp [List.take_of_length_le, show xs.length ≤ b by omega]
theorem call_at {S : DS} {h h' : Hd} {F : List D → M D} {ms : DS → M (List D)} {ds : List D} {r : Option (Res D)} (e : ms S h = some (.ok ds h')) (f : F ds h' = r) : dCall F ms S h = r := by
  rw [x_dCall, bd_ok e, f]
theorem lcE_if {f : PyData → DS → Option DS} {t : DS → M Bool} {e : DS → M D} {own : List Nat} {S S1 : DS} {x z : PyData} {h : Hd} {c : Bool} (hg : f x (wipeD S own) = some S1) (ht : t S1 h = some (.ok c h)) (he : c = true → e S1 h = some (.ok (.t z) h)) : lcE f t e own S x h = some (.ok (if c = true then some z else none) h) := by
  cases c with
  | true => simp -implicitDefEqProofs [hg, ht, he rfl]
  | false => simp -implicitDefEqProofs [hg, ht]
theorem cells_ok (ns : List Int) (h : Hd) : ∃ m : Nat, m ≤ 3 ∧ F__law_cells [.s ns, .t (.int 3)] h = some (.ok (.t (.list (rngD 0 m))) h) := by
  obtain ⟨q, e, hq⟩ : ∃ q : Nat, (if (if (ns.length : Int) < 3 then (ns.length : Int) else 3) > 1 then (if (ns.length : Int) < 3 then (ns.length : Int) else 3) else 1) = (q : Int) ∧ q ≤ 3 := by
    refine ⟨(if (if (ns.length : Int) < 3 then (ns.length : Int) else 3) > 1 then (if (ns.length : Int) < 3 then (ns.length : Int) else 3) else 1).toNat, ?_, ?_⟩ <;> split <;> split <;> omega
  refine ⟨q, hq, ?_⟩
  have r : rgOk 0 (q : Int) = true := by
    unfold rgOk DL.inR
    simp
    omega
  have c1 : maxQ [.int 1, .int (if (ns.length : Int) < 3 then (ns.length : Int) else 3)] = some (.int (q : Int)) := by
    rw [← e]; rfl
  have c2 : minR [.int 3, .int (ns.length : Nat)] = some (.int (if (ns.length : Int) < 3 then (ns.length : Int) else 3)) := rfl
  generalize (if (ns.length : Int) < 3 then (ns.length : Int) else 3) = mm at c1 c2
  simp -implicitDefEqProofs [F__law_cells, g__law_cells, dRg1, c1, c2, r]
theorem trues {ys : List PyData} (h : ∀ y ∈ ys, y = .bool true) : allP [.list ys] = some (.bool true) := by
  have e : ys = (ys.map fun _ => true).map fun b => PyData.bool b := by
    rw [List.map_map]
    induction ys with
    | nil => rfl
    | cons y ys ih =>
      rw [List.map_cons, ← ih fun z hz => h z (by simp [hz]), h y (by simp)]
      rfl
  rw [e, all_map]
  simp
theorem le_one (a b : Nat) : leP (.str (tx [a])) (.str (tx [b])) = some (.bool (decide (a ≤ b))) := by
  show some (PyData.bool (!decide ([b] < [a]))) = _
  have : decide ([b] < [a]) = decide (b < a) := by
    rw [decide_eq_decide]
    constructor
    · intro h
      cases h with
      | rel h => exact h
      | cons h => cases h
    · intro h; exact List.Lex.rel h
  rw [this]
  by_cases q : a ≤ b
  · rw [decide_eq_true q, decide_eq_false (by omega)]; rfl
  · rw [decide_eq_false q, decide_eq_true (by omega)]; rfl
theorem lt_one (a b : Nat) : ltP (.str (tx [a])) (.str (tx [b])) = some (.bool (decide (a < b))) := by
  show some (PyData.bool (decide ([a] < [b]))) = _
  have : decide ([a] < [b]) = decide (a < b) := by
    rw [decide_eq_decide]
    constructor
    · intro h
      cases h with
      | rel h => exact h
      | cons h => cases h
    · intro h; exact List.Lex.rel h
  rw [this]
def txs (L : List (List Nat)) : List PyData := L.map fun u => .str (tx u)
theorem ix_ch {w : List Nat} {i : Nat} (h : i < w.length) (hl : w.length ≤ 4000) : ixP (.str (tx w)) (.int (i : Nat)) = some (.str (tx [ch w i])) := by
  have : w.length ≤ 16777216 := by omega
  simp -implicitDefEqProofs [tx_len, this, at_ch h]
theorem txs_snoc (L : List (List Nat)) (u : List Nat) : txs L ++ [.str (tx u)] = txs (L ++ [u]) := by simp [txs]
theorem cut_fromL (xs : List PyData) (a : Nat) : cutP xs (some (a : Int)) none = xs.drop a := by
  unfold cutP
  rw [HT.sIx_nat, HT.sIx_none]
  by_cases ha : a ≤ xs.length
  · rw [Nat.min_eq_left ha]
    exact List.take_of_length_le (by simp)
  · rw [Nat.min_eq_right (by omega), List.drop_of_length_le (Nat.le_refl _), List.drop_of_length_le (by omega)]
    simp
theorem txs_str : ∀ M : List (List Nat), strsP (txs M) = some (M.map tx) := fun M => str_map M tx
theorem join_txs {M : List (List Nat)} (hl : M.flatten.length ≤ 16777216) : joinP (.str (tx [])) [.tuple (txs M)] = some (.str (tx M.flatten)) := by
  have := join_tx M hl
  exact this
theorem txs_drop (M : List (List Nat)) (k : Nat) : (txs M).drop k = txs (M.drop k) := by simp [txs, List.map_drop]
theorem txs_len (M : List (List Nat)) : (txs M).length = M.length := by simp [txs]
theorem not_at {S : DS} {h : Hd} {A : DS → M Bool} {b : Bool} (a : A S h = some (.ok b h)) : tNotD A S h = some (.ok (!b) h) := by
  simp -implicitDefEqProofs [a]
theorem tru_at {S : DS} {h : Hd} {A : DS → M D} {b : Bool} (a : A S h = some (.ok (.t (.bool b)) h)) : dTru A S h = some (.ok b h) := by
  simp -implicitDefEqProofs [a]
theorem list_at {S : DS} {h : Hd} {m : DS → M D} {ds : List PyData} (e : m S h = some (.ok (.t (.tuple ds)) h)) : dCN false listP (aCons m aNil) S h = some (.ok (.t (.list ds)) h) := by
  simp -implicitDefEqProofs [e, listP]
end Lw
set_option Elab.async false
set_option linter.all false
set_option maxRecDepth 100000
set_option maxHeartbeats 2000000
namespace Lw
open PySem PySem.Spec L2 DL
open PyProof.Rows hiding St
/-- a value that reads as this list -/
def Rd (d : D) (h : Hd) (xs : List PyData) : Prop := d = .t (.list xs) ∨ ∃ n, d = .c n ∧ h[n]? = some (.lst xs)
theorem Rd.rdw {d : D} {h : Hd} {xs : List PyData} (r : Rd d h xs) : rdw d h = some (.ok (.list xs) h) := by
  rcases r with rfl | ⟨n, rfl, e⟩
  · rfl
  · rw [x_rdc, e]
theorem Rd.app {d : D} {h : Hd} {xs : List PyData} {r : List Cell} (q : Rd d h xs) : Rd d (h ++ r) xs := by
  rcases q with rfl | ⟨n, rfl, e⟩
  · exact .inl rfl
  · refine .inr ⟨n, rfl, ?_⟩
    rw [List.getElem?_append_left (List.getElem?_eq_some_iff.mp e).1]
    exact e
def rowF (g : Nat → Nat) (m : Nat) : List PyData := (List.range (m + 1)).map fun i => .int (g i : Nat)
theorem rowF_len (g : Nat → Nat) (m : Nat) : (rowF g m).length = m + 1 := by simp [rowF]
theorem rowF_at {g : Nat → Nat} {m i : Nat} (h : i ≤ m) : atI (rowF g m) (i : Int) = some (.int (g i : Nat)) := by
  unfold rowF
  rw [atI_nat (by simp; omega)]
  simp
theorem rowF_last (g : Nat → Nat) (m : Nat) : atI (rowF g m) (-1) = some (.int (g m : Nat)) := by
  unfold rowF
  rw [List.range_succ, List.map_append]
  unfold atI ixN
  simp
  rw [if_pos (by omega), show (-1 + ((m : Int) + 1)).toNat = m by omega]
  simp
theorem rowF_snoc (g : Nat → Nat) (m : Nat) : rowF g m ++ [.int (g (m + 1) : Nat)] = rowF g (m + 1) := by
  unfold rowF
  rw [List.range_succ (n := m + 1), List.map_append]
  rfl
theorem rowF_eq {g g' : Nat → Nat} {m : Nat} (h : ∀ i, i ≤ m → g i = g' i) : rowF g m = rowF g' m := by
  unfold rowF
  apply List.map_congr_left
  intro i hi
  have := List.mem_range.mp hi
  rw [h i (by omega)]
theorem enum_at {w : List Nat} {j : Nat} {x : PyData} (h : (enumD (signsP (tx w)))[j]? = some x) : ∃ hj : j < w.length, x = .tuple [.int (j : Nat), .str (tx [w[j]])] := by
  unfold enumD at h
  rw [List.getElem?_zipWith] at h
  have e : (signsP (tx w)).length = w.length := by simp [signsP]
  by_cases hj : j < w.length
  · refine ⟨hj, ?_⟩
    rw [List.getElem?_range (by rw [e]; exact hj)] at h
    have e2 : (signsP (tx w))[j]? = some (.str (tx [w[j]])) := by
      unfold signsP
      rw [List.getElem?_map]
      simp [hj]
    rw [e2] at h
    cases h
    rfl
  · rw [List.getElem?_eq_none (by simp; omega : (List.range (signsP (tx w)).length).length ≤ j)] at h
    cases h
theorem enum_len (w : List Nat) : (enumD (signsP (tx w))).length = w.length := by simp [enumD, signsP]
theorem min3_nat (a b c : Nat) : min3I (a : Int) (b : Int) (c : Int) = ((min (min a b) c : Nat) : Int) := by
  unfold min3I
  split <;> split <;> omega
theorem cst_int (a b : Nat) : (if (!decide (tx [a] = tx [b])) = true then (1 : Int) else 0) = ((ED.cst a b : Nat) : Int) := by
  have e : decide (tx [a] = tx [b]) = decide (a = b) := by
    rw [decide_eq_decide, tx_inj]; simp
  rw [e]
  unfold ED.cst
  by_cases h : a = b
  · simp [h]
  · simp [h]
theorem set_endG2 {h : Hd} {x y : Cell} : (h ++ [x]).set h.length y = h ++ [y] := set_endG
/-- one more least of three -/
theorem app_min {S : DS} {h : Hd} {L a b c : Nat} {cur : List PyData} {A B C : DS → M D} (hL : S[L]? = some (some (.c h.length))) (hA : A S (h ++ [.lst cur]) = some (.ok (.t (.int (a : Nat))) (h ++ [.lst cur]))) (hB : B S (h ++ [.lst cur]) = some (.ok (.t (.int (b : Nat))) (h ++ [.lst cur]))) (hC : C S (h ++ [.lst cur]) = some (.ok (.t (.int (c : Nat))) (h ++ [.lst cur]))) (few : cur.length < 16777216) :
    sDrop (dApp (eVar L) (dCW minR (aCons A (aCons B (aCons C aNil))))) S (h ++ [.lst cur]) = some (.nx, S, h ++ [.lst (cur ++ [.int ((min (min a b) c : Nat) : Int)])]) := by
  have m := min3_nat a b c
  simp -implicitDefEqProofs [hL, hA, hB, hC, few, m]
section
variable {p : List Nat} {g : Nat → Nat} {c : Nat} {h : Hd}
theorem cost_at {S : DS} {X Y : DS → M D} {a b : Nat} (x : X S h = some (.ok (.t (.str (tx [a]))) h)) (y : Y S h = some (.ok (.t (.str (tx [b]))) h)) : dCW intP (aCons (dBin neP X Y) aNil) S h = some (.ok (.t (.int (ED.cst a b : Nat))) h) := by
  have ci := cst_int a b
  have : dBin neP X Y S h = some (.ok (.t (.bool (!decide (tx [a] = tx [b])))) h) := bin_at x y (by rw [ne_ss])
  generalize dBin neP X Y = MM at *
  simp -implicitDefEqProofs [this]
  rw [← ci]
  by_cases q : a = b
  · simp [q]
  · simp [q]
theorem ix_at {S : DS} {X Y : DS → M D} {d : D} {xs : List PyData} {i : Int} {z : PyData} (x : X S h = some (.ok d h)) (r : rdw d h = some (.ok (.list xs) h)) (y : Y S h = some (.ok (.t (.int i)) h)) (e : atI xs i = some z) : dIx ixP X Y S h = some (.ok (.t z) h) := by
  simp -implicitDefEqProofs [x, r, y, e]
theorem inc_at {S : DS} {X : DS → M D} {a : Nat} (x : X S h = some (.ok (.t (.int (a : Nat))) h)) : dBin addP X (eC (.t (.int 1))) S h = some (.ok (.t (.int ((a + 1 : Nat) : Int))) h) := by
  simp -implicitDefEqProofs [x]
theorem sum_at {S : DS} {X Y : DS → M D} {a b : Nat} (x : X S h = some (.ok (.t (.int (a : Nat))) h)) (y : Y S h = some (.ok (.t (.int (b : Nat))) h)) : dBin addP X Y S h = some (.ok (.t (.int ((a + b : Nat) : Int))) h) := by
  simp -implicitDefEqProofs [x, y]
theorem var_at {S : DS} {i : Nat} {d : D} (e : S[i]? = some (some d)) : eVar i S h = some (.ok d h) := by
  simp -implicitDefEqProofs [e]
end
/-! the law's own least changes -/
section
variable {v p : List Nat} {h : Hd}
theorem ll_in {g : Nat → Nat} {c j : Nat} {d2 o6 o7 : Option D} {d : D} {hh : Hd} (hp : p.length ≤ 400) (hd : d2 = some d) (rd : Rd d hh (rowF g p.length)) : ∃ q6 q7, (sFor (iEnuA (eVar 1)) (gT 2 (gsCons (gN 6) (gsCons (gN 7) gsNil))) (sDrop (dApp (eVar 5) (dCW minR (aCons (dBin addP (dIx ixP (eVar 2) (eVar 6)) (dCW intP (aCons (dBin neP (eVar 4) (eVar 7)) aNil))) (aCons (dBin addP (dIx ixP (eVar 2) (dBin addP (eVar 6) (eC (.t (.int 1))))) (eC (.t (.int 1)))) (aCons (dBin addP (dIx ixP (eVar 5) (dUn negP (eC (.t (.int 1))))) (eC (.t (.int 1)))) aNil))))))) [some (.t (.str (tx v))), some (.t (.str (tx p))), d2, some (.t (.int (j : Nat))), some (.t (.str (tx [c]))), some (.c hh.length), o6, o7] (hh ++ [.lst [.int ((j + 1 : Nat) : Int)]]) = some (.nx, [some (.t (.str (tx v))), some (.t (.str (tx p))), d2, some (.t (.int (j : Nat))), some (.t (.str (tx [c]))), some (.c hh.length), q6, q7], hh ++ [.lst (rowF (ED.nxt g p c (j + 1)) p.length)]) := by
  subst hd
  obtain ⟨S2, h2, e, ⟨o6', o7', rfl, rfl⟩⟩ := forL_inv (f := (gT 2 (gsCons (gN 6) (gsCons (gN 7) gsNil)))) (b := (sDrop (dApp (eVar 5) (dCW minR (aCons (dBin addP (dIx ixP (eVar 2) (eVar 6)) (dCW intP (aCons (dBin neP (eVar 4) (eVar 7)) aNil))) (aCons (dBin addP (dIx ixP (eVar 2) (dBin addP (eVar 6) (eC (.t (.int 1))))) (eC (.t (.int 1)))) (aCons (dBin addP (dIx ixP (eVar 5) (dUn negP (eC (.t (.int 1))))) (eC (.t (.int 1)))) aNil))))))) (fun i S h1 => ∃ o6 o7, S = [some (.t (.str (tx v))), some (.t (.str (tx p))), some d, some (.t (.int (j : Nat))), some (.t (.str (tx [c]))), some (.c hh.length), o6, o7] ∧ h1 = hh ++ [.lst (rowF (ED.nxt g p c (j + 1)) i)]) (enumD (signsP (tx p))) 0 [some (.t (.str (tx v))), some (.t (.str (tx p))), some d, some (.t (.int (j : Nat))), some (.t (.str (tx [c]))), some (.c hh.length), o6, o7] (hh ++ [.lst [.int ((j + 1 : Nat) : Int)]]) ⟨o6, o7, rfl, rfl⟩ (fun i x S h1 hx ⟨o6, o7, hS, hh1⟩ => by
    obtain ⟨hi, rfl⟩ := enum_at hx
    rw [Nat.zero_add] at hh1
    subst hS
    subst hh1
    refine ⟨[some (.t (.str (tx v))), some (.t (.str (tx p))), some d, some (.t (.int (j : Nat))), some (.t (.str (tx [c]))), some (.c hh.length), some (.t (.int (i : Nat))), some (.t (.str (tx [p[i]])))], [some (.t (.str (tx v))), some (.t (.str (tx p))), some d, some (.t (.int (j : Nat))), some (.t (.str (tx [c]))), some (.c hh.length), some (.t (.int (i : Nat))), some (.t (.str (tx [p[i]])))], hh ++ [.lst (rowF (ED.nxt g p c (j + 1)) (i + 1))], by simp [gT, gsCons, gsNil], ?_, ⟨some (.t (.int (i : Nat))), some (.t (.str (tx [p[i]]))), rfl, by rw [Nat.zero_add]⟩⟩
    rw [← rowF_snoc]
    have few : (rowF (ED.nxt g p c (j + 1)) i).length < 16777216 := by rw [rowF_len]; omega
    have r2 := (rd.app (r := [.lst (rowF (ED.nxt g p c (j + 1)) i)])).rdw
    have pi : p.getD i 0 = p[i] := by simp [hi]
    have main := app_min (S := [some (.t (.str (tx v))), some (.t (.str (tx p))), some d, some (.t (.int (j : Nat))), some (.t (.str (tx [c]))), some (.c hh.length), some (.t (.int (i : Nat))), some (.t (.str (tx [p[i]])))]) (h := hh) (L := 5) (cur := rowF (ED.nxt g p c (j + 1)) i) (a := g i + ED.cst c p[i]) (b := g (i + 1) + 1) (c := ED.nxt g p c (j + 1) i + 1) (A := (dBin addP (dIx ixP (eVar 2) (eVar 6)) (dCW intP (aCons (dBin neP (eVar 4) (eVar 7)) aNil)))) (B := (dBin addP (dIx ixP (eVar 2) (dBin addP (eVar 6) (eC (.t (.int 1))))) (eC (.t (.int 1))))) (C := (dBin addP (dIx ixP (eVar 5) (dUn negP (eC (.t (.int 1))))) (eC (.t (.int 1))))) rfl
      (sum_at (ix_at (var_at rfl) r2 (var_at rfl) (rowF_at (by omega))) (cost_at (var_at rfl) (var_at rfl)))
      (inc_at (ix_at (var_at rfl) r2 (inc_at (var_at rfl)) (rowF_at (by omega))))
      (inc_at (ix_at (var_at rfl) rdw_c (by simp -implicitDefEqProofs) (rowF_last _ _))) few
    rw [ED.cst_symm] at main
    rw [ED.nxt, pi]
    exact main)
  rw [Nat.zero_add, enum_len] at *
  refine ⟨o6', o7', ?_⟩
  rw [x_sFor, sB_ok (a := enumD (signsP (tx p))) (h' := hh ++ [.lst [.int ((j + 1 : Nat) : Int)]]) (by simp -implicitDefEqProofs)]
  exact e
theorem e_law_least (hv : v.length ≤ 400) (hp : p.length ≤ 400) : F__law_least [.t (.str (tx v)), .t (.str (tx p))] h = some (.ok (.t (.int (ED.eF p v : Nat))) h) := by
  have hp' : p.length ≤ 16777216 := by omega
  have rg : dRg1 false (dBin addP (dCW lenP (aCons (eVar 1) aNil)) (eC (.t (.int 1)))) [some (.t (.str (tx v))), some (.t (.str (tx p))), none, none, none, none, none, none] h = some (.ok (.t (.list (rowF (fun i => i) p.length))) h) := by
    have r : rgOk 0 ((p.length : Int) + 1) = true := by
      unfold rgOk DL.inR
      simp
      omega
    have e : rngD 0 ((p.length : Int) + 1).toNat = rowF (fun i => i) p.length := by
      rw [show ((p.length : Int) + 1).toNat = p.length + 1 by omega]
      unfold rngD rowF
      apply List.map_congr_left
      intro i _
      simp
    have e' : rngD 0 (p.length + 1) = rowF (fun i => i) p.length := by
      rw [← e]; congr 1
    simp -implicitDefEqProofs [dRg1, tx_len, hp', r, e, e']
  obtain ⟨S2, h2, e, ⟨d, o3, o4, o5, o6, o7, rfl, rd, tk, hlen⟩⟩ := forL_inv (f := (gT 2 (gsCons (gN 3) (gsCons (gN 4) gsNil)))) (b := (sSeq (sSet 5 (dLst true (aCons (dBin addP (eVar 3) (eC (.t (.int 1)))) aNil))) (sSeq (sFor (iEnuA (eVar 1)) (gT 2 (gsCons (gN 6) (gsCons (gN 7) gsNil))) (sDrop (dApp (eVar 5) (dCW minR (aCons (dBin addP (dIx ixP (eVar 2) (eVar 6)) (dCW intP (aCons (dBin neP (eVar 4) (eVar 7)) aNil))) (aCons (dBin addP (dIx ixP (eVar 2) (dBin addP (eVar 6) (eC (.t (.int 1))))) (eC (.t (.int 1)))) (aCons (dBin addP (dIx ixP (eVar 5) (dUn negP (eC (.t (.int 1))))) (eC (.t (.int 1)))) aNil))))))) (sSet 2 (eVar 5))))) (fun j S h1 => ∃ d o3 o4 o5 o6 o7, S = [some (.t (.str (tx v))), some (.t (.str (tx p))), some d, o3, o4, o5, o6, o7] ∧ Rd d h1 (rowF (fun i => ED.eF (p.take i) (v.take j)) p.length) ∧ h1.take h.length = h ∧ h.length ≤ h1.length) (enumD (signsP (tx v))) 0 [some (.t (.str (tx v))), some (.t (.str (tx p))), some (.t (.list (rowF (fun i => i) p.length))), none, none, none, none, none] h ⟨_, none, none, none, none, none, rfl, .inl (by
      congr 2
      refine rowF_eq fun i hi => ?_
      rw [List.take_zero, ED.eF_nil2, List.length_take, Nat.min_eq_left hi]), List.take_length, Nat.le_refl _⟩ (fun j x S h1 hx ⟨d, o3, o4, o5, o6, o7, hS, rd, tk, hlen⟩ => by
    obtain ⟨hj, rfl⟩ := enum_at hx
    rw [Nat.zero_add] at rd
    subst hS
    obtain ⟨o6', o7', ei⟩ := @ll_in v p (fun i => ED.eF (p.take i) (v.take j)) v[j] j (some d) o6 o7 d h1 hp rfl rd
    refine ⟨[some (.t (.str (tx v))), some (.t (.str (tx p))), some d, some (.t (.int (j : Nat))), some (.t (.str (tx [v[j]]))), o5, o6, o7], [some (.t (.str (tx v))), some (.t (.str (tx p))), some (.c h1.length), some (.t (.int (j : Nat))), some (.t (.str (tx [v[j]]))), some (.c h1.length), o6', o7'], h1 ++ [.lst (rowF (ED.nxt (fun i => ED.eF (p.take i) (v.take j)) p v[j] (j + 1)) p.length)], by simp [gT, gsCons, gsNil], ?_, ⟨.c h1.length, some (.t (.int (j : Nat))), some (.t (.str (tx [v[j]]))), some (.c h1.length), o6', o7', rfl, .inr ⟨h1.length, rfl, ?_⟩, ?_, ?_⟩⟩
    · have s1 : (sSet 5 (dLst true (aCons (dBin addP (eVar 3) (eC (.t (.int 1)))) aNil))) [some (.t (.str (tx v))), some (.t (.str (tx p))), some d, some (.t (.int (j : Nat))), some (.t (.str (tx [v[j]]))), o5, o6, o7] h1 = some (.nx, [some (.t (.str (tx v))), some (.t (.str (tx p))), some d, some (.t (.int (j : Nat))), some (.t (.str (tx [v[j]]))), some (.c h1.length), o6, o7], h1 ++ [.lst [.int ((j + 1 : Nat) : Int)]]) := by
        simp -implicitDefEqProofs
      rw [sSeq_nx s1, sSeq_nx ei]
      simp -implicitDefEqProofs
    · rw [List.getElem?_append_right (Nat.le_refl _), Nat.sub_self]
      show some (Cell.lst _) = some (Cell.lst _)
      congr 2
      refine rowF_eq fun i hi => ?_
      have hlj : (v.take j).length = j := by simp; omega
      have := ED.nxt_eF (g := fun i => ED.eF (p.take i) (v.take j)) (p := p) (u := v.take j) (c := v[j]) (fun i _ => rfl) i hi
      rw [hlj] at this
      rw [this, Nat.zero_add, ED.take_snoc hj]
      simp [hj]
    · rw [List.take_append_of_le_length hlen]; exact tk
    · simp; omega)
  rw [Nat.zero_add, enum_len, List.take_length] at rd
  have eg : (fun i => ED.eF (p.take i) v) p.length = ED.eF p v := by simp only [List.take_length]
  rw [← eg]
  clear eg
  generalize (fun i => ED.eF (p.take i) v) = G at *
  have e2 : g__law_least [some (.t (.str (tx v))), some (.t (.str (tx p))), none, none, none, none, none, none] h = some (.rt (.t (.int (G p.length : Nat))), [some (.t (.str (tx v))), some (.t (.str (tx p))), some d, o3, o4, o5, o6, o7], h2) := by
    unfold g__law_least
    rw [sSeq_nx (set_at1 rg)]
    have it : (iEnuA (eVar 0)) [some (.t (.str (tx v))), some (.t (.str (tx p))), some (.t (.list (rowF (fun i => i) p.length))), none, none, none, none, none] h = some (.ok (enumD (signsP (tx v))) h) := by
      generalize rowF (fun i => i) p.length = R
      simp -implicitDefEqProofs
    have ef : sFor (iEnuA (eVar 0)) (gT 2 (gsCons (gN 3) (gsCons (gN 4) gsNil))) (sSeq (sSet 5 (dLst true (aCons (dBin addP (eVar 3) (eC (.t (.int 1)))) aNil))) (sSeq (sFor (iEnuA (eVar 1)) (gT 2 (gsCons (gN 6) (gsCons (gN 7) gsNil))) (sDrop (dApp (eVar 5) (dCW minR (aCons (dBin addP (dIx ixP (eVar 2) (eVar 6)) (dCW intP (aCons (dBin neP (eVar 4) (eVar 7)) aNil))) (aCons (dBin addP (dIx ixP (eVar 2) (dBin addP (eVar 6) (eC (.t (.int 1))))) (eC (.t (.int 1)))) (aCons (dBin addP (dIx ixP (eVar 5) (dUn negP (eC (.t (.int 1))))) (eC (.t (.int 1)))) aNil))))))) (sSet 2 (eVar 5)))) [some (.t (.str (tx v))), some (.t (.str (tx p))), some (.t (.list (rowF (fun i => i) p.length))), none, none, none, none, none] h = some (.nx, [some (.t (.str (tx v))), some (.t (.str (tx p))), some d, o3, o4, o5, o6, o7], h2) := by
      rw [x_sFor, sB_ok it]
      exact e
    show sSeq _ _ [some (.t (.str (tx v))), some (.t (.str (tx p))), some (.t (.list (rowF (fun i => i) p.length))), none, none, none, none, none] h = _
    rw [sSeq_nx ef, x_sRet, sB_ok (ix_at (var_at rfl) rd.rdw (by simp -implicitDefEqProofs) (rowF_last _ _))]
  simp -implicitDefEqProofs [F__law_least, e2, tk]
end
end Lw
set_option Elab.async false
set_option linter.all false
set_option maxRecDepth 100000
set_option maxHeartbeats 2000000
namespace Lw
open PySem PySem.Spec L2 DL
open PyProof.Rows hiding St
theorem rng_row {S : DS} {h : Hd} {w : List Nat} {k : Nat} (hv : S[k]? = some (some (.t (.str (tx w))))) (hw : w.length ≤ 400) : dRg1 false (dBin addP (dCW lenP (aCons (eVar k) aNil)) (eC (.t (.int 1)))) S h = some (.ok (.t (.list (rowF (fun i => i) w.length))) h) := by
  have hw' : w.length ≤ 16777216 := by omega
  have r : rgOk 0 ((w.length : Int) + 1) = true := by
    unfold rgOk DL.inR
    simp
    omega
  have e : rngD 0 (w.length + 1) = rowF (fun i => i) w.length := by
    unfold rngD rowF
    apply List.map_congr_left
    intro i _
    simp
  simp -implicitDefEqProofs [dRg1, hv, tx_len, hw', r, e]
theorem neg1 {S : DS} {h : Hd} : dUn negP (eC (.t (.int 1))) S h = some (.ok (.t (.int (-1))) h) := by simp -implicitDefEqProofs
/-- a live list put into another -/
theorem app_cell {S : DS} {h : Hd} {i j n m : Nat} {B L : List PyData} (hi : S[i]? = some (some (.c n))) (hj : S[j]? = some (some (.c m))) (en : h[n]? = some (.lst B)) (em : h[m]? = some (.lst L)) (ne : n ≠ m) (few : B.length < 16777216) : sDrop (dApp (eVar i) (eVar j)) S h = some (.nx, S, (h.set m (.gone (.list L))).set n (.lst (B ++ [.list L]))) := by
  have g1 := getC_at en
  have en2 : (h.set m (.gone (.list L)))[n]? = some (.lst B) := by rw [List.getElem?_set_ne (Ne.symm ne)]; exact en
  have g2 := getC_at en2
  have g3 := setC_at (es := B ++ [.list L]) en2
  have f : fz (.c m) h = some (.ok (.list L) (h.set m (.gone (.list L)))) := by simp [fz, em]
  simp -implicitDefEqProofs [hi, hj, g1, f, g2, g3, few]
theorem app_val {S : DS} {h : Hd} {i n : Nat} {B : List PyData} {X : DS → M D} {z : PyData} (hi : S[i]? = some (some (.c n))) (en : h[n]? = some (.lst B)) (x : X S h = some (.ok (.t z) h)) (few : B.length < 16777216) : sDrop (dApp (eVar i) X) S h = some (.nx, S, h.set n (.lst (B ++ [z]))) := by
  have g1 := getC_at en
  have g3 := setC_at (es := B ++ [z]) en
  simp -implicitDefEqProofs [hi, g1, x, g3, few]
theorem mid_at {h R : Hd} {x : Cell} : (h ++ (x :: R))[h.length]? = some x := by simp
theorem mid_set {h R : Hd} {x y : Cell} : (h ++ (x :: R)).set h.length y = h ++ (y :: R) := by
  rw [List.set_append_right _ _ (Nat.le_refl _), Nat.sub_self]
  rfl
theorem out_mid {h R : Hd} {ds : List PyData} : outD false h.length (h ++ (.lst ds :: R)) (.c h.length) = some (.t (.list ds), h) := by simp [outD]
/-! the board -/
def gD (v p : List Nat) (j i : Nat) : Nat := ED.eF (p.take i) (v.take j)
theorem gD_zero (v p : List Nat) : rowF (fun i => i) p.length = rowF (gD v p 0) p.length := rowF_eq fun i hi => by
  unfold gD
  rw [List.take_zero, ED.eF_nil2, List.length_take, Nat.min_eq_left hi]
theorem gD_next {v p : List Nat} {j : Nat} (hj : j < v.length) : rowF (ED.nxt (gD v p j) p v[j] (j + 1)) p.length = rowF (gD v p (j + 1)) p.length := rowF_eq fun i hi => by
  have hlj : (v.take j).length = j := by simp; omega
  have := ED.nxt_eF (g := gD v p j) (p := p) (u := v.take j) (c := v[j]) (fun i _ => rfl) i hi
  rw [hlj] at this
  rw [this]
  unfold gD
  rw [ED.take_snoc hj]
  simp [hj]
theorem gD_end (v p : List Nat) : gD v p v.length p.length = ED.eF p v := by
  unfold gD
  rw [List.take_length, List.take_length]
def boardL (v p : List Nat) (j : Nat) : List PyData := (List.range (j + 1)).map fun t => .list (rowF (gD v p t) p.length)
theorem boardL_last (v p : List Nat) (j : Nat) : atI (boardL v p j) (-1) = some (.list (rowF (gD v p j) p.length)) := by
  unfold boardL
  rw [List.range_succ, List.map_append]
  unfold atI ixN
  simp
  rw [if_pos (by omega), show (-1 + ((j : Int) + 1)).toNat = j by omega]
  simp
theorem boardL_snoc (v p : List Nat) (j : Nat) : boardL v p j ++ [.list (rowF (gD v p (j + 1)) p.length)] = boardL v p (j + 1) := by
  unfold boardL
  rw [List.range_succ (n := j + 1), List.map_append]
  rfl
theorem boardL_len (v p : List Nat) (j : Nat) : (boardL v p j).length = j + 1 := by simp [boardL]
section
variable {v p : List Nat} {h : Hd}
theorem brd_in {g : Nat → Nat} {c j nb : Nat} {o7 o8 : Option D} {hh : Hd} (hp : p.length ≤ 400) : ∃ q7 q8, (sFor (iEnuA (eVar 1)) (gT 2 (gsCons (gN 7) (gsCons (gN 8) gsNil))) (sDrop (dApp (eVar 6) (dCW minR (aCons (dBin addP (dIx ixP (eVar 5) (eVar 7)) (dCW intP (aCons (dBin neP (eVar 4) (eVar 8)) aNil))) (aCons (dBin addP (dIx ixP (eVar 5) (dBin addP (eVar 7) (eC (.t (.int 1))))) (eC (.t (.int 1)))) (aCons (dBin addP (dIx ixP (eVar 6) (eVar 7)) (eC (.t (.int 1)))) aNil))))))) [some (.t (.str (tx v))), some (.t (.str (tx p))), some (.c nb), some (.t (.int (j : Nat))), some (.t (.str (tx [c]))), some (.t (.list (rowF g p.length))), some (.c hh.length), o7, o8] (hh ++ [.lst [.int ((j + 1 : Nat) : Int)]]) = some (.nx, [some (.t (.str (tx v))), some (.t (.str (tx p))), some (.c nb), some (.t (.int (j : Nat))), some (.t (.str (tx [c]))), some (.t (.list (rowF g p.length))), some (.c hh.length), q7, q8], hh ++ [.lst (rowF (ED.nxt g p c (j + 1)) p.length)]) := by
  obtain ⟨S2, h2, e, ⟨o7', o8', rfl, rfl⟩⟩ := forL_inv (f := (gT 2 (gsCons (gN 7) (gsCons (gN 8) gsNil)))) (b := (sDrop (dApp (eVar 6) (dCW minR (aCons (dBin addP (dIx ixP (eVar 5) (eVar 7)) (dCW intP (aCons (dBin neP (eVar 4) (eVar 8)) aNil))) (aCons (dBin addP (dIx ixP (eVar 5) (dBin addP (eVar 7) (eC (.t (.int 1))))) (eC (.t (.int 1)))) (aCons (dBin addP (dIx ixP (eVar 6) (eVar 7)) (eC (.t (.int 1)))) aNil))))))) (fun i S h1 => ∃ o7 o8, S = [some (.t (.str (tx v))), some (.t (.str (tx p))), some (.c nb), some (.t (.int (j : Nat))), some (.t (.str (tx [c]))), some (.t (.list (rowF g p.length))), some (.c hh.length), o7, o8] ∧ h1 = hh ++ [.lst (rowF (ED.nxt g p c (j + 1)) i)]) (enumD (signsP (tx p))) 0 [some (.t (.str (tx v))), some (.t (.str (tx p))), some (.c nb), some (.t (.int (j : Nat))), some (.t (.str (tx [c]))), some (.t (.list (rowF g p.length))), some (.c hh.length), o7, o8] (hh ++ [.lst [.int ((j + 1 : Nat) : Int)]]) ⟨o7, o8, rfl, rfl⟩ (fun i x S h1 hx ⟨o7, o8, hS, hh1⟩ => by
    obtain ⟨hi, rfl⟩ := enum_at hx
    rw [Nat.zero_add] at hh1
    subst hS
    subst hh1
    refine ⟨[some (.t (.str (tx v))), some (.t (.str (tx p))), some (.c nb), some (.t (.int (j : Nat))), some (.t (.str (tx [c]))), some (.t (.list (rowF g p.length))), some (.c hh.length), some (.t (.int (i : Nat))), some (.t (.str (tx [p[i]])))], [some (.t (.str (tx v))), some (.t (.str (tx p))), some (.c nb), some (.t (.int (j : Nat))), some (.t (.str (tx [c]))), some (.t (.list (rowF g p.length))), some (.c hh.length), some (.t (.int (i : Nat))), some (.t (.str (tx [p[i]])))], hh ++ [.lst (rowF (ED.nxt g p c (j + 1)) (i + 1))], by simp [gT, gsCons, gsNil], ?_, ⟨some (.t (.int (i : Nat))), some (.t (.str (tx [p[i]]))), rfl, by rw [Nat.zero_add]⟩⟩
    rw [← rowF_snoc]
    have few : (rowF (ED.nxt g p c (j + 1)) i).length < 16777216 := by rw [rowF_len]; omega
    have pi : p.getD i 0 = p[i] := by simp [hi]
    have main := app_min (S := [some (.t (.str (tx v))), some (.t (.str (tx p))), some (.c nb), some (.t (.int (j : Nat))), some (.t (.str (tx [c]))), some (.t (.list (rowF g p.length))), some (.c hh.length), some (.t (.int (i : Nat))), some (.t (.str (tx [p[i]])))]) (h := hh) (L := 6) (cur := rowF (ED.nxt g p c (j + 1)) i) (a := g i + ED.cst c p[i]) (b := g (i + 1) + 1) (c := ED.nxt g p c (j + 1) i + 1) (A := (dBin addP (dIx ixP (eVar 5) (eVar 7)) (dCW intP (aCons (dBin neP (eVar 4) (eVar 8)) aNil)))) (B := (dBin addP (dIx ixP (eVar 5) (dBin addP (eVar 7) (eC (.t (.int 1))))) (eC (.t (.int 1))))) (C := (dBin addP (dIx ixP (eVar 6) (eVar 7)) (eC (.t (.int 1))))) rfl
      (sum_at (ix_at (var_at rfl) rfl (var_at rfl) (rowF_at (by omega))) (cost_at (var_at rfl) (var_at rfl)))
      (inc_at (ix_at (var_at rfl) rfl (inc_at (var_at rfl)) (rowF_at (by omega))))
      (inc_at (ix_at (var_at rfl) rdw_c (var_at rfl) (rowF_at (Nat.le_refl _)))) few
    rw [ED.cst_symm] at main
    rw [ED.nxt, pi]
    exact main)
  rw [Nat.zero_add, enum_len] at *
  refine ⟨o7', o8', ?_⟩
  rw [x_sFor, sB_ok (a := enumD (signsP (tx p))) (h' := hh ++ [.lst [.int ((j + 1 : Nat) : Int)]]) (by simp -implicitDefEqProofs)]
  exact e
theorem e_board_of (hv : v.length ≤ 400) (hp : p.length ≤ 400) : F_board_of [.t (.str (tx v)), .t (.str (tx p))] h = some (.ok (.t (.list (boardL v p v.length))) h) := by
  have rg := rng_row (S := [some (.t (.str (tx v))), some (.t (.str (tx p))), none, none, none, none, none, none, none]) (h := h) (w := p) (k := 1) rfl hp
  rw [gD_zero v p] at rg
  obtain ⟨S2, h2, e, ⟨R, o3, o4, o5, o6, o7, o8, rfl, rfl⟩⟩ := forL_inv (f := (gT 2 (gsCons (gN 3) (gsCons (gN 4) gsNil)))) (b := (sSeq (sPar 5 6 (aCons (dIx ixP (eVar 2) (dUn negP (eC (.t (.int 1))))) (aCons (dLst true (aCons (dBin addP (eVar 3) (eC (.t (.int 1)))) aNil)) aNil))) (sSeq (sFor (iEnuA (eVar 1)) (gT 2 (gsCons (gN 7) (gsCons (gN 8) gsNil))) (sDrop (dApp (eVar 6) (dCW minR (aCons (dBin addP (dIx ixP (eVar 5) (eVar 7)) (dCW intP (aCons (dBin neP (eVar 4) (eVar 8)) aNil))) (aCons (dBin addP (dIx ixP (eVar 5) (dBin addP (eVar 7) (eC (.t (.int 1))))) (eC (.t (.int 1)))) (aCons (dBin addP (dIx ixP (eVar 6) (eVar 7)) (eC (.t (.int 1)))) aNil))))))) (sDrop (dApp (eVar 2) (eVar 6)))))) (fun j S h1 => ∃ R o3 o4 o5 o6 o7 o8, S = [some (.t (.str (tx v))), some (.t (.str (tx p))), some (.c h.length), o3, o4, o5, o6, o7, o8] ∧ h1 = h ++ (.lst (boardL v p j) :: R)) (enumD (signsP (tx v))) 0 [some (.t (.str (tx v))), some (.t (.str (tx p))), some (.c h.length), none, none, none, none, none, none] (h ++ [.lst (boardL v p 0)]) ⟨[], none, none, none, none, none, none, rfl, rfl⟩ (fun j x S h1 hx ⟨R, o3, o4, o5, o6, o7, o8, hS, hh1⟩ => by
    obtain ⟨hj, rfl⟩ := enum_at hx
    rw [Nat.zero_add] at hh1
    subst hS
    obtain ⟨q7, q8, ei⟩ := @brd_in v p (gD v p j) v[j] j h.length o7 o8 h1 hp
    rw [gD_next hj] at ei
    refine ⟨[some (.t (.str (tx v))), some (.t (.str (tx p))), some (.c h.length), some (.t (.int (j : Nat))), some (.t (.str (tx [v[j]]))), o5, o6, o7, o8], [some (.t (.str (tx v))), some (.t (.str (tx p))), some (.c h.length), some (.t (.int (j : Nat))), some (.t (.str (tx [v[j]]))), some (.t (.list (rowF (gD v p j) p.length))), some (.c h1.length), q7, q8], h ++ (.lst (boardL v p (j + 1)) :: (R ++ [.gone (.list (rowF (gD v p (j + 1)) p.length))])), by simp [gT, gsCons, gsNil], ?_, ⟨_, _, _, _, _, _, _, rfl, by rw [Nat.zero_add]⟩⟩
    have b1 : h1[h.length]? = some (.lst (boardL v p j)) := by rw [hh1]; exact mid_at
    have hb : h.length < h1.length := (List.getElem?_eq_some_iff.mp b1).1
    have rd : rdw (.c h.length) h1 = some (.ok (.list (boardL v p j)) h1) := by rw [x_rdc, b1]
    have s1 : (sPar 5 6 (aCons (dIx ixP (eVar 2) (dUn negP (eC (.t (.int 1))))) (aCons (dLst true (aCons (dBin addP (eVar 3) (eC (.t (.int 1)))) aNil)) aNil))) [some (.t (.str (tx v))), some (.t (.str (tx p))), some (.c h.length), some (.t (.int (j : Nat))), some (.t (.str (tx [v[j]]))), o5, o6, o7, o8] h1 = some (.nx, [some (.t (.str (tx v))), some (.t (.str (tx p))), some (.c h.length), some (.t (.int (j : Nat))), some (.t (.str (tx [v[j]]))), some (.t (.list (rowF (gD v p j) p.length))), some (.c h1.length), o7, o8], h1 ++ [.lst [.int ((j + 1 : Nat) : Int)]]) := by
      have a1 := ix_at (S := [some (.t (.str (tx v))), some (.t (.str (tx p))), some (.c h.length), some (.t (.int (j : Nat))), some (.t (.str (tx [v[j]]))), o5, o6, o7, o8]) (X := eVar 2) (Y := dUn negP (eC (.t (.int 1)))) (var_at rfl) rd neg1 (boardL_last v p j)
      generalize rowF (gD v p j) p.length = RR at *
      generalize dIx ixP (eVar 2) (dUn negP (eC (.t (.int 1)))) = IX at a1 ⊢
      simp -implicitDefEqProofs [a1]
    rw [sSeq_nx s1, sSeq_nx ei]
    have b2 : (h1 ++ [Cell.lst (rowF (gD v p (j + 1)) p.length)])[h.length]? = some (.lst (boardL v p j)) := by rw [List.getElem?_append_left hb]; exact b1
    have ac := app_cell (S := [some (.t (.str (tx v))), some (.t (.str (tx p))), some (.c h.length), some (.t (.int (j : Nat))), some (.t (.str (tx [v[j]]))), some (.t (.list (rowF (gD v p j) p.length))), some (.c h1.length), q7, q8]) (i := 2) (j := 6) (n := h.length) (m := h1.length) (B := boardL v p j) (L := rowF (gD v p (j + 1)) p.length) rfl rfl b2 (by simp) (Nat.ne_of_lt hb) (by rw [boardL_len]; omega)
    rw [ac]
    congr 3
    rw [set_endG, boardL_snoc, hh1, List.append_assoc, List.cons_append, mid_set])
  rw [Nat.zero_add, enum_len] at *
  have e2 : g_board_of [some (.t (.str (tx v))), some (.t (.str (tx p))), none, none, none, none, none, none, none] h = some (.rt (.c h.length), [some (.t (.str (tx v))), some (.t (.str (tx p))), some (.c h.length), o3, o4, o5, o6, o7, o8], h ++ (.lst (boardL v p v.length) :: R)) := by
    unfold g_board_of
    have s0 : (sSet 2 (dLst true (aCons (dRg1 false (dBin addP (dCW lenP (aCons (eVar 1) aNil)) (eC (.t (.int 1))))) aNil))) [some (.t (.str (tx v))), some (.t (.str (tx p))), none, none, none, none, none, none, none] h = some (.nx, [some (.t (.str (tx v))), some (.t (.str (tx p))), some (.c h.length), none, none, none, none, none, none], h ++ [.lst (boardL v p 0)]) := by
      have eb : boardL v p 0 = [.list (rowF (gD v p 0) p.length)] := rfl
      rw [eb]
      generalize rowF (gD v p 0) p.length = RR at *
      generalize dRg1 false _ = RG at *
      simp -implicitDefEqProofs [rg]
    have ef : sFor (iEnuA (eVar 0)) (gT 2 (gsCons (gN 3) (gsCons (gN 4) gsNil))) (sSeq (sPar 5 6 (aCons (dIx ixP (eVar 2) (dUn negP (eC (.t (.int 1))))) (aCons (dLst true (aCons (dBin addP (eVar 3) (eC (.t (.int 1)))) aNil)) aNil))) (sSeq (sFor (iEnuA (eVar 1)) (gT 2 (gsCons (gN 7) (gsCons (gN 8) gsNil))) (sDrop (dApp (eVar 6) (dCW minR (aCons (dBin addP (dIx ixP (eVar 5) (eVar 7)) (dCW intP (aCons (dBin neP (eVar 4) (eVar 8)) aNil))) (aCons (dBin addP (dIx ixP (eVar 5) (dBin addP (eVar 7) (eC (.t (.int 1))))) (eC (.t (.int 1)))) (aCons (dBin addP (dIx ixP (eVar 6) (eVar 7)) (eC (.t (.int 1)))) aNil))))))) (sDrop (dApp (eVar 2) (eVar 6))))) [some (.t (.str (tx v))), some (.t (.str (tx p))), some (.c h.length), none, none, none, none, none, none] (h ++ [.lst (boardL v p 0)]) = some (.nx, [some (.t (.str (tx v))), some (.t (.str (tx p))), some (.c h.length), o3, o4, o5, o6, o7, o8], h ++ (.lst (boardL v p v.length) :: R)) := by
      rw [x_sFor, sB_ok (a := enumD (signsP (tx v))) (h' := h ++ [.lst (boardL v p 0)]) (by simp -implicitDefEqProofs)]
      exact e
    rw [sSeq_nx s0, sSeq_nx ef]
    simp -implicitDefEqProofs
  have om := @out_mid h R (boardL v p v.length)
  generalize boardL v p v.length = BL at *
  simp -implicitDefEqProofs [F_board_of, e2, om]
end
end Lw
set_option Elab.async false
set_option linter.all false
set_option maxRecDepth 100000
set_option maxHeartbeats 2000000
namespace Lw
open PySem PySem.Spec L2 DL
open PyProof.Rows hiding St
/-! the last line of the nearest ends -/
def gS (p w : List Nat) : Nat → Nat → Nat
  | 0 => fun i => i
  | j + 1 => ED.nxt (gS p w j) p (w.getD j 0) 0
theorem gS_sel (p w : List Nat) : ∀ j, j ≤ w.length → ∀ i, i ≤ p.length → ED.Sel (p.take i) (w.take j) (gS p w j i)
  | 0, _, i, hi => by
    have := ED.sel_nil2 (p.take i)
    rw [List.length_take, Nat.min_eq_left hi] at this
    rw [List.take_zero]
    exact this
  | j + 1, hj, i, hi => by
    rw [ED.take_snoc (by omega)]
    exact ED.nxt_sel (gS_sel p w j (by omega)) i hi
section
variable {p w : List Nat} {h : Hd}
theorem la_in {g : Nat → Nat} {c nf : Nat} {o6 o7 : Option D} {d : D} {hh : Hd} (hp : p.length ≤ 400) (rd : Rd d hh (rowF g p.length)) : ∃ q6 q7, (sFor (iEnuA (eVar 0)) (gT 2 (gsCons (gN 6) (gsCons (gN 7) gsNil))) (sDrop (dApp (eVar 5) (dCW minR (aCons (dBin addP (dIx ixP (eVar 2) (eVar 6)) (dCW intP (aCons (dBin neP (eVar 7) (eVar 4)) aNil))) (aCons (dBin addP (dIx ixP (eVar 2) (dBin addP (eVar 6) (eC (.t (.int 1))))) (eC (.t (.int 1)))) (aCons (dBin addP (dIx ixP (eVar 5) (eVar 6)) (eC (.t (.int 1)))) aNil))))))) [some (.t (.str (tx p))), some (.t (.str (tx w))), some d, some (.c nf), some (.t (.str (tx [c]))), some (.c hh.length), o6, o7] (hh ++ [.lst [.int 0]]) = some (.nx, [some (.t (.str (tx p))), some (.t (.str (tx w))), some d, some (.c nf), some (.t (.str (tx [c]))), some (.c hh.length), q6, q7], hh ++ [.lst (rowF (ED.nxt g p c 0) p.length)]) := by
  obtain ⟨S2, h2, e, ⟨o6', o7', rfl, rfl⟩⟩ := forL_inv (f := (gT 2 (gsCons (gN 6) (gsCons (gN 7) gsNil)))) (b := (sDrop (dApp (eVar 5) (dCW minR (aCons (dBin addP (dIx ixP (eVar 2) (eVar 6)) (dCW intP (aCons (dBin neP (eVar 7) (eVar 4)) aNil))) (aCons (dBin addP (dIx ixP (eVar 2) (dBin addP (eVar 6) (eC (.t (.int 1))))) (eC (.t (.int 1)))) (aCons (dBin addP (dIx ixP (eVar 5) (eVar 6)) (eC (.t (.int 1)))) aNil))))))) (fun i S h1 => ∃ o6 o7, S = [some (.t (.str (tx p))), some (.t (.str (tx w))), some d, some (.c nf), some (.t (.str (tx [c]))), some (.c hh.length), o6, o7] ∧ h1 = hh ++ [.lst (rowF (ED.nxt g p c 0) i)]) (enumD (signsP (tx p))) 0 [some (.t (.str (tx p))), some (.t (.str (tx w))), some d, some (.c nf), some (.t (.str (tx [c]))), some (.c hh.length), o6, o7] (hh ++ [.lst [.int 0]]) ⟨o6, o7, rfl, rfl⟩ (fun i x S h1 hx ⟨o6, o7, hS, hh1⟩ => by
    obtain ⟨hi, rfl⟩ := enum_at hx
    rw [Nat.zero_add] at hh1
    subst hS
    subst hh1
    refine ⟨[some (.t (.str (tx p))), some (.t (.str (tx w))), some d, some (.c nf), some (.t (.str (tx [c]))), some (.c hh.length), some (.t (.int (i : Nat))), some (.t (.str (tx [p[i]])))], [some (.t (.str (tx p))), some (.t (.str (tx w))), some d, some (.c nf), some (.t (.str (tx [c]))), some (.c hh.length), some (.t (.int (i : Nat))), some (.t (.str (tx [p[i]])))], hh ++ [.lst (rowF (ED.nxt g p c 0) (i + 1))], by simp [gT, gsCons, gsNil], ?_, ⟨some (.t (.int (i : Nat))), some (.t (.str (tx [p[i]]))), rfl, by rw [Nat.zero_add]⟩⟩
    rw [← rowF_snoc]
    have few : (rowF (ED.nxt g p c 0) i).length < 16777216 := by rw [rowF_len]; omega
    have r2 := (rd.app (r := [.lst (rowF (ED.nxt g p c 0) i)])).rdw
    have pi : p.getD i 0 = p[i] := by simp [hi]
    have main := app_min (S := [some (.t (.str (tx p))), some (.t (.str (tx w))), some d, some (.c nf), some (.t (.str (tx [c]))), some (.c hh.length), some (.t (.int (i : Nat))), some (.t (.str (tx [p[i]])))]) (h := hh) (L := 5) (cur := rowF (ED.nxt g p c 0) i) (a := g i + ED.cst p[i] c) (b := g (i + 1) + 1) (c := ED.nxt g p c 0 i + 1) (A := (dBin addP (dIx ixP (eVar 2) (eVar 6)) (dCW intP (aCons (dBin neP (eVar 7) (eVar 4)) aNil)))) (B := (dBin addP (dIx ixP (eVar 2) (dBin addP (eVar 6) (eC (.t (.int 1))))) (eC (.t (.int 1))))) (C := (dBin addP (dIx ixP (eVar 5) (eVar 6)) (eC (.t (.int 1))))) rfl
      (sum_at (ix_at (var_at rfl) r2 (var_at rfl) (rowF_at (by omega))) (cost_at (var_at rfl) (var_at rfl)))
      (inc_at (ix_at (var_at rfl) r2 (inc_at (var_at rfl)) (rowF_at (by omega))))
      (inc_at (ix_at (var_at rfl) rdw_c (var_at rfl) (rowF_at (Nat.le_refl _)))) few
    rw [ED.nxt, pi]
    exact main)
  rw [Nat.zero_add, enum_len] at *
  refine ⟨o6', o7', ?_⟩
  rw [x_sFor, sB_ok (a := enumD (signsP (tx p))) (h' := hh ++ [.lst [.int 0]]) (by simp -implicitDefEqProofs)]
  exact e
theorem sign_at {j : Nat} {x : PyData} (hx : (signsP (tx w))[j]? = some x) : ∃ hj : j < w.length, x = .str (tx [w[j]]) := by
  unfold signsP at hx
  rw [List.getElem?_map] at hx
  by_cases hj : j < w.length
  · refine ⟨hj, ?_⟩
    simp [hj] at hx
    exact hx.symm
  · rw [List.getElem?_eq_none (by simp; omega)] at hx
    cases hx
theorem e_last_line (hp : p.length ≤ 400) (hw : w.length ≤ 400) : F_last_line [.t (.str (tx p)), .t (.str (tx w))] h = some (.ok (.t (.list (rowF (fun t => gS p w t p.length) w.length))) h) := by
  have rg := rng_row (S := [some (.t (.str (tx p))), some (.t (.str (tx w))), none, none, none, none, none, none]) (h := h) (w := p) (k := 0) rfl hp
  obtain ⟨S2, h2, e, ⟨R, d, o4, o5, o6, o7, rfl, rfl, rdl⟩⟩ := forL_inv (f := (gN 4)) (b := (sSeq (sSet 5 (dLst true (aCons (eC (.t (.int 0))) aNil))) (sSeq (sFor (iEnuA (eVar 0)) (gT 2 (gsCons (gN 6) (gsCons (gN 7) gsNil))) (sDrop (dApp (eVar 5) (dCW minR (aCons (dBin addP (dIx ixP (eVar 2) (eVar 6)) (dCW intP (aCons (dBin neP (eVar 7) (eVar 4)) aNil))) (aCons (dBin addP (dIx ixP (eVar 2) (dBin addP (eVar 6) (eC (.t (.int 1))))) (eC (.t (.int 1)))) (aCons (dBin addP (dIx ixP (eVar 5) (eVar 6)) (eC (.t (.int 1)))) aNil))))))) (sSeq (sSet 2 (eVar 5)) (sDrop (dApp (eVar 3) (dIx ixP (eVar 2) (dUn negP (eC (.t (.int 1))))))))))) (fun j S h1 => ∃ R d o4 o5 o6 o7, S = [some (.t (.str (tx p))), some (.t (.str (tx w))), some d, some (.c h.length), o4, o5, o6, o7] ∧ h1 = h ++ (.lst (rowF (fun t => gS p w t p.length) j) :: R) ∧ Rd d h1 (rowF (gS p w j) p.length)) (signsP (tx w)) 0 [some (.t (.str (tx p))), some (.t (.str (tx w))), some (.t (.list (rowF (fun i => i) p.length))), some (.c h.length), none, none, none, none] (h ++ [.lst (rowF (fun t => gS p w t p.length) 0)]) ⟨[], _, none, none, none, none, rfl, rfl, .inl rfl⟩ (fun j x S h1 hx ⟨R, d, o4, o5, o6, o7, hS, hh1, rd⟩ => by
    obtain ⟨hj, rfl⟩ := sign_at hx
    rw [Nat.zero_add] at hh1 rd
    subst hS
    obtain ⟨q6, q7, ei⟩ := @la_in p w (gS p w j) w[j] h.length o6 o7 d h1 hp rd
    have ge : ED.nxt (gS p w j) p w[j] 0 = gS p w (j + 1) := by
      show _ = ED.nxt (gS p w j) p (w.getD j 0) 0
      simp [hj]
    rw [ge] at ei
    have b1 : h1[h.length]? = some (.lst (rowF (fun t => gS p w t p.length) j)) := by rw [hh1]; exact mid_at
    have hb : h.length < h1.length := (List.getElem?_eq_some_iff.mp b1).1
    have fin : (h1 ++ [Cell.lst (rowF (gS p w (j + 1)) p.length)]).set h.length (.lst (rowF (fun t => gS p w t p.length) (j + 1))) = h ++ (.lst (rowF (fun t => gS p w t p.length) (j + 1)) :: (R ++ [.lst (rowF (gS p w (j + 1)) p.length)])) := by
      rw [hh1, List.append_assoc, List.cons_append, mid_set]
    refine ⟨[some (.t (.str (tx p))), some (.t (.str (tx w))), some d, some (.c h.length), some (.t (.str (tx [w[j]]))), o5, o6, o7], [some (.t (.str (tx p))), some (.t (.str (tx w))), some (.c h1.length), some (.c h.length), some (.t (.str (tx [w[j]]))), some (.c h1.length), q6, q7], (h1 ++ [Cell.lst (rowF (gS p w (j + 1)) p.length)]).set h.length (.lst (rowF (fun t => gS p w t p.length) (j + 1))), by simp, ?_, ⟨R ++ [.lst (rowF (gS p w (j + 1)) p.length)], .c h1.length, _, _, _, _, rfl, by rw [Nat.zero_add]; exact fin, .inr ⟨h1.length, rfl, ?_⟩⟩⟩
    · have s1 : (sSet 5 (dLst true (aCons (eC (.t (.int 0))) aNil))) [some (.t (.str (tx p))), some (.t (.str (tx w))), some d, some (.c h.length), some (.t (.str (tx [w[j]]))), o5, o6, o7] h1 = some (.nx, [some (.t (.str (tx p))), some (.t (.str (tx w))), some d, some (.c h.length), some (.t (.str (tx [w[j]]))), some (.c h1.length), o6, o7], h1 ++ [.lst [.int 0]]) := by
        simp -implicitDefEqProofs
      have s3 : (sSet 2 (eVar 5)) [some (.t (.str (tx p))), some (.t (.str (tx w))), some d, some (.c h.length), some (.t (.str (tx [w[j]]))), some (.c h1.length), q6, q7] (h1 ++ [.lst (rowF (gS p w (j + 1)) p.length)]) = some (.nx, [some (.t (.str (tx p))), some (.t (.str (tx w))), some (.c h1.length), some (.c h.length), some (.t (.str (tx [w[j]]))), some (.c h1.length), q6, q7], h1 ++ [.lst (rowF (gS p w (j + 1)) p.length)]) := by
        simp -implicitDefEqProofs
      have b2 : (h1 ++ [Cell.lst (rowF (gS p w (j + 1)) p.length)])[h.length]? = some (.lst (rowF (fun t => gS p w t p.length) j)) := by rw [List.getElem?_append_left hb]; exact b1
      have av := app_val (S := [some (.t (.str (tx p))), some (.t (.str (tx w))), some (.c h1.length), some (.c h.length), some (.t (.str (tx [w[j]]))), some (.c h1.length), q6, q7]) (i := 3) (X := dIx ixP (eVar 2) (dUn negP (eC (.t (.int 1))))) rfl b2 (ix_at (var_at rfl) rdw_c neg1 (rowF_last _ _)) (by rw [rowF_len]; omega)
      rw [rowF_snoc (fun t => gS p w t p.length) j] at av
      rw [sSeq_nx s1, sSeq_nx ei, sSeq_nx s3, av]
    · rw [List.getElem?_set_ne (Nat.ne_of_lt hb)]
      simp)
  have sl : (signsP (tx w)).length = w.length := by simp [signsP]
  rw [Nat.zero_add, sl] at e rdl
  have e2 : g_last_line [some (.t (.str (tx p))), some (.t (.str (tx w))), none, none, none, none, none, none] h = some (.rt (.c h.length), [some (.t (.str (tx p))), some (.t (.str (tx w))), some d, some (.c h.length), o4, o5, o6, o7], h ++ (.lst (rowF (fun t => gS p w t p.length) w.length) :: R)) := by
    unfold g_last_line
    have s1 : (sSet 3 (dLst true (aCons (dIx ixP (eVar 2) (dUn negP (eC (.t (.int 1))))) aNil))) [some (.t (.str (tx p))), some (.t (.str (tx w))), some (.t (.list (rowF (fun i => i) p.length))), none, none, none, none, none] h = some (.nx, [some (.t (.str (tx p))), some (.t (.str (tx w))), some (.t (.list (rowF (fun i => i) p.length))), some (.c h.length), none, none, none, none], h ++ [.lst (rowF (fun t => gS p w t p.length) 0)]) := by
      have a1 := ix_at (S := [some (.t (.str (tx p))), some (.t (.str (tx w))), some (.t (.list (rowF (fun i => i) p.length))), none, none, none, none, none]) (h := h) (X := eVar 2) (Y := dUn negP (eC (.t (.int 1)))) (var_at rfl) rfl neg1 (rowF_last (fun i => i) p.length)
      have er : rowF (fun t => gS p w t p.length) 0 = [.int (p.length : Nat)] := rfl
      rw [er]
      generalize rowF (fun i => i) p.length = RR at *
      generalize dIx ixP (eVar 2) (dUn negP (eC (.t (.int 1)))) = IX at a1 ⊢
      simp -implicitDefEqProofs [a1]
    have ef : sFor (iAny (eVar 1)) (gN 4) (sSeq (sSet 5 (dLst true (aCons (eC (.t (.int 0))) aNil))) (sSeq (sFor (iEnuA (eVar 0)) (gT 2 (gsCons (gN 6) (gsCons (gN 7) gsNil))) (sDrop (dApp (eVar 5) (dCW minR (aCons (dBin addP (dIx ixP (eVar 2) (eVar 6)) (dCW intP (aCons (dBin neP (eVar 7) (eVar 4)) aNil))) (aCons (dBin addP (dIx ixP (eVar 2) (dBin addP (eVar 6) (eC (.t (.int 1))))) (eC (.t (.int 1)))) (aCons (dBin addP (dIx ixP (eVar 5) (eVar 6)) (eC (.t (.int 1)))) aNil))))))) (sSeq (sSet 2 (eVar 5)) (sDrop (dApp (eVar 3) (dIx ixP (eVar 2) (dUn negP (eC (.t (.int 1)))))))))) [some (.t (.str (tx p))), some (.t (.str (tx w))), some (.t (.list (rowF (fun i => i) p.length))), some (.c h.length), none, none, none, none] (h ++ [.lst (rowF (fun t => gS p w t p.length) 0)]) = some (.nx, [some (.t (.str (tx p))), some (.t (.str (tx w))), some d, some (.c h.length), o4, o5, o6, o7], h ++ (.lst (rowF (fun t => gS p w t p.length) w.length) :: R)) := by
      rw [x_sFor, sB_ok (a := signsP (tx w)) (h' := h ++ [.lst (rowF (fun t => gS p w t p.length) 0)]) (by
        generalize rowF (fun i => i) p.length = RR at *
        simp -implicitDefEqProofs [iAny])]
      exact e
    rw [sSeq_nx (set_at1 rg)]
    show sSeq _ _ [some (.t (.str (tx p))), some (.t (.str (tx w))), some (.t (.list (rowF (fun i => i) p.length))), none, none, none, none, none] h = _
    rw [sSeq_nx s1, sSeq_nx ef]
    simp -implicitDefEqProofs
  have om := @out_mid h R (rowF (fun t => gS p w t p.length) w.length)
  generalize rowF (fun t => gS p w t p.length) w.length = BL at *
  simp -implicitDefEqProofs [F_last_line, e2, om]
end
end Lw
set_option Elab.async false
set_option linter.all false
set_option maxRecDepth 100000
set_option maxHeartbeats 2000000
namespace Lw
open PySem PySem.Spec L2 DL
open PyProof.Rows hiding St
section
variable {p w : List Nat} {h : Hd}
/-- ends with their least changes, up to most -/
def nearL (f : Nat → Nat) (n most : Nat) : List PyData := (List.range (n + 1)).filterMap fun t => if f t ≤ most then some (.tuple [.int (t : Nat), .int (f t : Nat)]) else none
theorem enum_rowF (f : Nat → Nat) (n : Nat) : enumD (rowF f n) = (List.range (n + 1)).map fun t => .tuple [.int (t : Nat), .int (f t : Nat)] := by
  apply List.ext_getElem?
  intro i
  unfold enumD
  rw [List.getElem?_zipWith, rowF_len]
  by_cases hi : i < n + 1
  · unfold rowF
    simp [hi]
  · rw [List.getElem?_eq_none (by simp; omega : (List.range (n + 1)).length ≤ i), List.getElem?_eq_none (show (rowF f n).length ≤ i by rw [rowF_len]; omega), List.getElem?_eq_none (by simp; omega)]
theorem e_nearly_at {most : Nat} (hw : Rw w) (hp : Rw p) (hm : most ≤ 60) (hp6 : p.length ≤ 60) : F_nearly_at [.t (.str (tx w)), .t (.str (tx p)), .t (.int (most : Nat))] h = some (.ok (.t (.tuple (nearL (fun t => gS p w t p.length) w.length most))) h) := by
  have wl := hw.2
  have pl := hp.2
  have hp' : p.length ≤ 16777216 := by omega
  have c1 := e_chk hw h
  have c2 := e_chk hp h
  have c3 := e_is_between (most : Nat) 0 60 h
  rw [decide_eq_true (show (0 : Int) ≤ (most : Nat) ∧ ((most : Nat) : Int) ≤ 60 by omega)] at c3
  have c4 := @e_last_line p w h pl wl
  obtain ⟨f, hf⟩ : ∃ f : Nat → Nat, f = fun t => gS p w t p.length := ⟨_, rfl⟩
  rw [← hf] at c4 ⊢
  have lc : (dLc false (iEnuA (dCall F_last_line (aCons (eVar 1) (aCons (eVar 0) aNil)))) (gT 2 (gsCons (gN 3) (gsCons (gN 4) gsNil))) (dTest (dBin leP (eVar 4) (eVar 2))) (dTup (aCons (eVar 3) (aCons (eVar 4) aNil))) [3, 4]) [some (.t (.str (tx w))), some (.t (.str (tx p))), some (.t (.int (most : Nat))), none, none] h = some (.ok (.t (.list (nearL f w.length most))) h) := by
    refine (lc_pure (xs := List.range (w.length + 1)) (enc := fun t => .tuple [.int (t : Nat), .int (f t : Nat)]) (fun t => if f t ≤ most then some (.tuple [.int (t : Nat), .int (f t : Nat)]) else none) ?_ (by simp; omega) ?_).trans rfl
    · rw [← enum_rowF]
      generalize rowF f w.length = L at *
      generalize F_last_line = FL at *
      simp -implicitDefEqProofs [c4]
    · intro t ht acc
      generalize f t = v at *
      by_cases q : v ≤ most
      · simp -implicitDefEqProofs [gT, gsCons, gsNil, q]
      · simp -implicitDefEqProofs [gT, gsCons, gsNil, q]
  have q5 : ¬ (60 : Int) < (p.length : Int) := by omega
  have e : g_nearly_at [some (.t (.str (tx w))), some (.t (.str (tx p))), some (.t (.int (most : Nat))), none, none] h = some (.rt (.t (.tuple (nearL f w.length most))), [some (.t (.str (tx w))), some (.t (.str (tx p))), some (.t (.int (most : Nat))), none, none], h) := by
    unfold g_nearly_at
    generalize dLc false _ _ _ _ _ = LL at *
    generalize nearL f w.length most = NL at *
    simp -implicitDefEqProofs [c1, c2, c3, tx_len, hp', q5, lc]
  simp -implicitDefEqProofs [F_nearly_at, e]
/-! unlike letters -/
def unL (p w : List Nat) : List PyData := (p.zip w).filterMap fun ab => if ab.1 = ab.2 then none else some (.int 1)
theorem unL_symm (p w : List Nat) : (unL p w).length = (unL w p).length := by
  unfold unL
  induction p generalizing w with
  | nil => simp
  | cons a p ih =>
    cases w with
    | nil => simp
    | cons b w =>
      have := ih w
      by_cases q : a = b
      · simp [q, this]
      · have q' : ¬ b = a := fun e => q e.symm
        simp [q, q', this]
theorem unL_len (p w : List Nat) : (unL p w).length ≤ p.length := Nat.le_trans (List.length_filterMap_le _ _) (by simp; omega)
theorem zip_signs : ∀ p w : List Nat, zipD (signsP (tx p)) (signsP (tx w)) = (p.zip w).map fun ab => .tuple [.str (tx [ab.1]), .str (tx [ab.2])]
  | [], _ => by simp [zipD, signsP]
  | _ :: _, [] => by simp [zipD, signsP]
  | a :: p, b :: w => by
    have ih := zip_signs p w
    simp only [zipD, signsP] at ih ⊢
    simp at ih ⊢
    exact ih
/-- the walk over two texts -/
theorem lc_un {S : DS} {ms : DS → M (List D)} {i j : Nat} (hm : ms S h = some (.ok [.t (.str (tx p)), .t (.str (tx w))] h)) (hp : p.length ≤ 400) (hs : ∀ a b acc, lcE (gT 2 (gsCons (gN i) (gsCons (gN j) gsNil))) (dTest (dBin neP (eVar i) (eVar j))) (eC (.t (.int 1))) [i, j] S (.tuple [.str (tx [a]), .str (tx [b])]) (h ++ [.lst acc]) = some (.ok (if a = b then none else some (.int 1)) (h ++ [.lst acc]))) : dLc false (DL.iZipA ms) (gT 2 (gsCons (gN i) (gsCons (gN j) gsNil))) (dTest (dBin neP (eVar i) (eVar j))) (eC (.t (.int 1))) [i, j] S h = some (.ok (.t (.list (unL p w))) h) := by
  refine (lc_pure (xs := p.zip w) (enc := fun ab => .tuple [.str (tx [ab.1]), .str (tx [ab.2])]) (fun ab => if ab.1 = ab.2 then none else some (.int 1)) ?_ (by simp; omega) ?_).trans rfl
  · rw [← zip_signs]
    simp -implicitDefEqProofs [hm]
  · intro ab hab acc
    exact hs ab.1 ab.2 acc
theorem e_unlike_of (hp : p.length ≤ 400) : F_unlike_of [.t (.str (tx p)), .t (.str (tx w))] h = some (.ok (.t (.int ((unL p w).length : Nat))) h) := by
  have lc := lc_un (S := [some (.t (.str (tx p))), some (.t (.str (tx w))), none, none]) (h := h) (p := p) (w := w) (ms := aCons (eVar 0) (aCons (eVar 1) aNil)) (i := 2) (j := 3) (by simp -implicitDefEqProofs) hp (fun a b acc => by
    by_cases q : a = b
    · simp -implicitDefEqProofs [gT, gsCons, gsNil, q]
    · simp -implicitDefEqProofs [gT, gsCons, gsNil, q])
  unfold F_unlike_of g_unlike_of
  generalize dLc false _ _ _ _ _ = LL at *
  generalize unL p w = U at *
  simp -implicitDefEqProofs [lc]
theorem e_unlike (hp : Rw p) (hw : Rw w) (hl : p.length = w.length) : F_unlike [.t (.str (tx p)), .t (.str (tx w))] h = some (.ok (.t (.int ((unL p w).length : Nat))) h) := by
  have wl := hw.2
  have pl := hp.2
  have hp' : p.length ≤ 16777216 := by omega
  have hw' : w.length ≤ 16777216 := by omega
  have c1 := e_chk hp h
  have c2 := e_chk hw h
  have c3 := @e_unlike_of p w h pl
  generalize unL p w = U at *
  simp -implicitDefEqProofs [F_unlike, g_unlike, c1, c2, tx_len, hp', hw', hl, c3]
theorem e_check_board (hp : Rw p) (hw : Rw w) (h1 : p.length ≤ 60) (h2 : w.length ≤ 60) : F_check_board [.t (.str (tx p)), .t (.str (tx w))] h = some (.ok (.t .none) h) := by
  have hp' : p.length ≤ 16777216 := by omega
  have hw' : w.length ≤ 16777216 := by omega
  have c1 := e_chk hp h
  have c2 := e_chk hw h
  have mx : ∃ m : Nat, maxQ [.int (p.length : Nat), .int (w.length : Nat)] = some (.int (m : Nat)) ∧ m ≤ 60 := by
    refine ⟨if w.length > p.length then w.length else p.length, ?_, by split <;> omega⟩
    show some (PyData.int (if (w.length : Int) > (p.length : Int) then (w.length : Int) else (p.length : Int))) = _
    congr 2
    split <;> split <;> omega
  obtain ⟨m, mx, hm⟩ := mx
  have q : ¬ (60 : Int) < (m : Int) := by omega
  simp -implicitDefEqProofs [F_check_board, g_check_board, c1, c2, tx_len, hp', hw', mx, q]
theorem e_least_changes (hp : Rw p) (hw : Rw w) (h1 : p.length ≤ 60) (h2 : w.length ≤ 60) : F_least_changes [.t (.str (tx p)), .t (.str (tx w))] h = some (.ok (.t (.int (ED.eF w p : Nat))) h) := by
  have c1 := @e_check_board p w h hp hw h1 h2
  have c2 := @e_board_of p w h hp.2 hw.2
  have bl := boardL_last p w p.length
  have rl := rowF_last (gD p w p.length) w.length
  rw [gD_end] at rl
  generalize rowF (gD p w p.length) w.length = RR at *
  generalize boardL p w p.length = BB at *
  generalize ED.eF w p = v at *
  unfold F_least_changes g_least_changes
  generalize F_check_board = FC at *
  generalize F_board_of = FB at *
  simp -implicitDefEqProofs [c1, c2, bl, rl]
/-! the nearest place -/
def nrL (p w : List Nat) : List PyData := (List.range (w.length + 1 - p.length)).map fun a => .tuple [.int ((unL p ((w.drop a).take p.length)).length : Nat), .int (a : Nat)]
def orNone (l : List PyData) (z : PyData) : PyData := match l with
  | [] => .none
  | _ :: _ => z
theorem sh_pairs {γ : Type} (l : List γ) (f g : γ → Nat) : SeqAt.shaped (.list (l.map fun x => .tuple [.int (f x : Nat), .int (g x : Nat)])) = true := by
  have h1 : PyData.canLayAll0 (l.map fun x => .tuple [.int (f x : Nat), .int (g x : Nat)]) = true ∧ PyData.depthAll (l.map fun x => PyData.tuple [.int (f x : Nat), .int (g x : Nat)]) ≤ 1 := by
    induction l with
    | nil => simp [PyData.canLayAll0, PyData.depthAll]
    | cons y ys ih => simp [PyData.canLayAll0, PyData.depthAll, ih, PyData.canLay0, PyData.depth]
  simp [SeqAt.shaped, PyData.canLay0, PyData.depth, h1]
  omega
theorem alike_pairs {γ : Type} (l : List γ) (f g : γ → Nat) : alikeB (l.map fun x => .tuple [.int (f x : Nat), .int (g x : Nat)]) = true := by
  simp [alikeB, PySem.W.alike, PySem.W.alikeAll]
theorem minD_mem : ∀ (xs : List PyData) (x : PyData), PySem.W.minD x xs = x ∨ PySem.W.minD x xs ∈ xs
  | [], x => .inl rfl
  | y :: xs, x => by
    unfold PySem.W.minD
    rw [List.foldl_cons]
    have := minD_mem xs (if PySem.W.dataLt y x then y else x)
    unfold PySem.W.minD at this
    split at this
    · rename_i q
      simp only [q, if_true]
      rcases this with e | e
      · exact .inr (by rw [e]; simp)
      · exact .inr (by simp [e])
    · rename_i q
      simp only [q]
      rcases this with e | e
      · exact .inl e
      · exact .inr (by simp [e])
theorem nr_min {l : List PyData} (sh : SeqAt.shaped (.list l) = true) (al : alikeB l = true) (tup : ∀ d ∈ l, ∃ a b : Nat, d = .tuple [.int (a : Nat), .int (b : Nat)]) : (l = [] ∧ neP (.list l) (.list []) = some (.bool false)) ∨ (l ≠ [] ∧ neP (.list l) (.list []) = some (.bool true) ∧ ∃ z ∈ l, minR [.list l] = some z) := by
  have s0 : SeqAt.shaped (.list []) = true := by decide
  cases l with
  | nil => exact .inl ⟨rfl, by simp [neP, s0, PyData.eqv, PyData.eqvAll]⟩
  | cons x xs =>
    refine .inr ⟨by simp, by simp [neP, sh, s0, PyData.eqv, PyData.eqvAll], ?_⟩
    obtain ⟨a, b, rfl⟩ := tup x (by simp)
    refine ⟨PySem.W.minD (.tuple [.int (a : Nat), .int (b : Nat)]) xs, ?_, ?_⟩
    · rcases minD_mem xs (.tuple [.int (a : Nat), .int (b : Nat)]) with e | e
      · rw [e]; simp
      · simp [e]
    · unfold minR minQ
      have m1 : minP [.list (.tuple [.int (a : Nat), .int (b : Nat)] :: xs)] = none := rfl
      rw [m1, Option.none_or]
      show ((if _ && _ then some (PySem.W.minD _ _) else none)).or _ = _
      rw [sh, al]
      rfl
end
end Lw
set_option Elab.async false
set_option linter.all false
set_option maxRecDepth 100000
set_option maxHeartbeats 2000000
namespace Lw
open PySem PySem.Spec L2 DL
open PyProof.Rows hiding St
/-! tuples of pairs may be shown -/
def okE2 (B : Nat) (d : PyData) : Prop := d.showable = true ∧ d.canLay0 = true ∧ d.depth ≤ 1 ∧ d.shown.length ≤ B
theorem okE2_tup {B : Nat} {xs : List PyData} (h : ∀ x ∈ xs, okE2 B x) (hl : xs.length * (B + 2) ≤ 1000000) : okR (.tuple xs) = true := by
  have h1 : ∀ ys : List PyData, (∀ x ∈ ys, okE2 B x) → PyData.showableAll ys = true ∧ PyData.canLayAll0 ys = true ∧ PyData.depthAll ys ≤ 1 := by
    intro ys
    induction ys with
    | nil => intro _; simp [PyData.showableAll, PyData.canLayAll0, PyData.depthAll]
    | cons y ys ih =>
      intro hy
      obtain ⟨a, b, c⟩ := ih (fun z hz => hy z (by simp [hz]))
      obtain ⟨p, q, r, _⟩ := hy y (by simp)
      simp [PyData.showableAll, PyData.canLayAll0, PyData.depthAll, a, b, p, q]
      omega
  obtain ⟨a, b, c⟩ := h1 xs h
  have h2 := tuple_len (PyData.shownAll xs)
  have h3 := piled_le xs (fun x hx => (h x hx).2.2.2)
  have e : (PyData.tuple xs).shown = tupleText (PyData.shownAll xs) := by simp [PyData.shown]
  simp only [okR, Bool.and_eq_true, decide_eq_true_eq]
  refine ⟨by simp [PyData.showable, a], ?_, by rw [e]; simp; omega⟩
  simp [SeqAt.shaped, PyData.canLay0, PyData.depth, b]
  omega
theorem okE2_pair {a b : Nat} (ha : a < 1000) (hb : b < 1000) : okE2 20 (.tuple [.int (a : Nat), .int (b : Nat)]) := by
  obtain ⟨p1, p2, p3, p4⟩ := okE_int a ha
  obtain ⟨q1, q2, q3, q4⟩ := okE_int b hb
  refine ⟨by simp [PyData.showable, PyData.showableAll] at p1 q1 ⊢; exact ⟨p1, q1⟩, by simp [PyData.canLay0, PyData.canLayAll0, p2, q2], by simp [PyData.depth, PyData.depthAll, p3, q3], ?_⟩
  have e : (PyData.tuple [.int (a : Nat), .int (b : Nat)]).shown = tupleText (PyData.shownAll [.int (a : Nat), .int (b : Nat)]) := by simp [PyData.shown]
  have h2 := tuple_len (PyData.shownAll [.int (a : Nat), .int (b : Nat)])
  have h3 := piled_le (B := 3) [.int (a : Nat), .int (b : Nat)] (fun x hx => by
    simp only [List.mem_cons, List.not_mem_nil, or_false] at hx
    rcases hx with rfl | rfl
    · exact p4
    · exact q4)
  rw [e]
  simp at h3
  omega
theorem okR_pair {a b : Nat} (ha : a < 1000) (hb : b < 1000) : okR (.tuple [.int (a : Nat), .int (b : Nat)]) = true := by
  refine okE_tup (B := 3) (fun x hx => ?_) (by simp)
  simp only [List.mem_cons, List.not_mem_nil, or_false] at hx
  rcases hx with rfl | rfl
  · exact okE_int a ha
  · exact okE_int b hb
theorem okR_none : okR .none = true := by decide
/-! drawn rows -/
theorem row_ok {n k m : Nat} {h : Hd} {x : Cell} {lot : List Nat} (hx : h[n]? = some x) (g : Gp k x) (hk : k ≤ 9000) (h1 : 0 < lot.length) (h2 : lot.length ≤ 10) (ha : ∀ c ∈ lot, c ∈ AZ) (hm : m ≤ 20) :
    ∃ (w : List Nat) (y : Cell), F__law_row [.c n, .t (.str (tx lot)), .t (.int (m : Nat))] h = some (.ok (.t (.str (tx w))) (h.set n y)) ∧ (∀ c ∈ w, c ∈ AZ) ∧ w.length ≤ m ∧ Gp (k + 21) y := by
  have hl : n < h.length := (List.getElem?_eq_some_iff.mp hx).1
  obtain ⟨r, y, e, hr, gy⟩ := take_at (u := (m : Int) + 1) (m + 1) (by omega) hx g (by omega) (by omega) (by omega)
  obtain ⟨ys, h', e2, l2, g2, ⟨y2, i2, i3⟩, k2⟩ := lc_inv (S := [some (.c n), some (.t (.str (tx lot))), some (.t (.int (m : Nat))), none]) (h := h) (h' := h.set n y) (m := iRg1 (aCons (dCall F__law_take (aCons (eVar 0) (aCons (dBin addP (eVar 2) (eC (.t (.int 1)))) aNil))) aNil)) (f := gN 3) (t := tYesD) (e := dCall F__law_of (aCons (eVar 0) (aCons (dCN false listP (aCons (eVar 1) aNil)) aNil))) (own := [3]) (xs := rngD 0 r)
    (fun i h1 => ∃ z, h1 = h.set n z ∧ Gp (k + 1 + i) z) (fun d => ∃ c, d = .str (tx [c]) ∧ c ∈ AZ)
    (by
      have q : r < 4611686018427387904 := by omega
      simp -implicitDefEqProofs [e, q])
    (by simp [rngD]; omega) ⟨y, rfl, gy⟩ (by
      intro d hd i h1' acc hi0 hl1 ⟨z, ez, gz⟩
      have hi : i ≤ 20 := by simp [rngD] at hi0; omega
      have hz : (h1' ++ [Cell.lst acc])[n]? = some z := by
        rw [List.getElem?_append_left (by rw [ez]; simpa using hl), ez]
        exact set_at' hx
      obtain ⟨q, v, y', e4, hq, gy'⟩ := law_of_ok (xs := signsP (tx lot)) hz gz (by omega) (by simp [signsP]; omega) (by simp [signsP]; omega)
      have hs : (h1' ++ [Cell.lst acc]).set n y' = h.set n y' ++ [Cell.lst acc] := by
        rw [List.set_append_left _ _ (by rw [ez]; simpa using hl), ez, List.set_set]
      rw [hs] at e4
      have tl : lot.length ≤ 16777216 := by omega
      refine ⟨v, h.set n y', ?_, ?_, ⟨y', rfl, gy'⟩, by simp⟩
      · simp -implicitDefEqProofs [listP, tx_len, tl, e4]
      · have := List.mem_of_getElem? hq
        simp only [signsP, List.mem_map] at this
        obtain ⟨c, hc, rfl⟩ := this
        exact ⟨c, rfl, ha c (by simpa using hc)⟩)
  obtain ⟨cs, rfl, hcs⟩ := cs_of g2
  have hlen : cs.length = r := by simpa [rngD] using l2
  subst i2
  refine ⟨cs, y2, ?_, hcs, by omega, i3.mono (by simp [rngD]; omega)⟩
  have jn := joinM_at (S := [some (.c n), some (.t (.str (tx lot))), some (.t (.int (m : Nat))), none]) (h := h) e2 (by rw [flat_one]; omega)
  rw [flat_one] at jn
  have e5 : g__law_row [some (.c n), some (.t (.str (tx lot))), some (.t (.int (m : Nat))), none] h = some (.rt (.t (.str (tx cs))), [some (.c n), some (.t (.str (tx lot))), some (.t (.int (m : Nat))), none], h.set n y2) := by
    unfold g__law_row
    rw [x_sRet, sB_ok jn]
  simp -implicitDefEqProofs [F__law_row, e5, tk_set]
/-! the nearest place -/
def Nz (p w : List Nat) (z : PyData) : Prop := (nrL p w = [] ∧ neP (.list (nrL p w)) (.list []) = some (.bool false) ∧ z = .none) ∨ (neP (.list (nrL p w)) (.list []) = some (.bool true) ∧ z ∈ nrL p w ∧ minR [.list (nrL p w)] = some z)
theorem nz_ex (p w : List Nat) : ∃ z, Nz p w z := by
  rcases nr_min (l := nrL p w) (sh_pairs _ _ _) (alike_pairs _ _ _) (fun d hd => by
    unfold nrL at hd
    obtain ⟨a, _, rfl⟩ := List.mem_map.mp hd
    exact ⟨_, _, rfl⟩) with ⟨a, b⟩ | ⟨a, b, z, hz, e⟩
  · exact ⟨.none, .inl ⟨a, b, rfl⟩⟩
  · exact ⟨z, .inr ⟨b, hz, e⟩⟩
theorem okR_nz {p w : List Nat} {z : PyData} (h : Nz p w z) (hp : p.length ≤ 400) (hw : w.length ≤ 400) : okR z = true := by
  rcases h with ⟨_, _, rfl⟩ | ⟨_, hz, _⟩
  · exact okR_none
  · unfold nrL at hz
    obtain ⟨a, ha, rfl⟩ := List.mem_map.mp hz
    have ha := List.mem_range.mp ha
    have := unL_len p ((w.drop a).take p.length)
    exact okR_pair (by omega) (by omega)
section
variable {p w : List Nat} {h : Hd}
theorem e_nearest_in {z : PyData} (hp : Rw p) (hw : Rw w) (hz : Nz p w z) : F_nearest_in [.t (.str (tx w)), .t (.str (tx p))] h = some (.ok (.t z) h) := by
  have wl := hw.2
  have pl := hp.2
  have hp' : p.length ≤ 16777216 := by omega
  have hw' : w.length ≤ 16777216 := by omega
  have c1 := e_chk hw h
  have c2 := e_chk hp h
  have lc : (dLc false (iRg1 (aCons (dBin addP (dBin subP (dCW lenP (aCons (eVar 0) aNil)) (dCW lenP (aCons (eVar 1) aNil))) (eC (.t (.int 1)))) aNil)) (gN 3) tYesD (dTup (aCons (dCall F_unlike_of (aCons (dSl false (eVar 0) (oSome (eVar 3)) (oSome (dBin addP (eVar 3) (dCW lenP (aCons (eVar 1) aNil))))) (aCons (eVar 1) aNil))) (aCons (eVar 3) aNil))) [3]) [some (.t (.str (tx w))), some (.t (.str (tx p))), none, none] h = some (.ok (.t (.list (nrL p w))) h) := by
    refine (lc_rngM (lo := 0) (n := w.length + 1 - p.length) (fun a => .tuple [.int ((unL p ((w.drop a).take p.length)).length : Nat), .int (a : Nat)]) ?_ (by simp; omega) ?_).trans rfl
    · simp [x_inR, tx_len, hw', hp']
      exact rg1_h (by omega) (by omega) (by omega)
    · intro a ha acc
      have c3 := @e_unlike_of ((w.drop a).take p.length) p (h ++ [.lst acc]) (by simp; omega)
      rw [unL_symm] at c3
      have e5 : (a : Int) + (p.length : Int) = ((a + p.length : Nat) : Int) := by omega
      have ct : cutP w (some (a : Int)) (some ((a + p.length : Nat) : Int)) = (w.drop a).take p.length := by rw [cut_ab, Nat.add_sub_cancel_left]
      have sl := sl_ab (S := [some (.t (.str (tx w))), some (.t (.str (tx p))), none, some (.t (.int (a : Nat)))]) (h := h ++ [.lst acc]) (ma := eVar 0) (ml := oSome (eVar 3)) (mh := oSome (dBin addP (eVar 3) (dCW lenP (aCons (eVar 1) aNil)))) (F := w) (lo := some (a : Int)) (hi := some ((a + p.length : Nat) : Int)) rfl rfl (by simp -implicitDefEqProofs [tx_len, hp']) hw'
      rw [ct] at sl
      generalize unL p ((w.drop a).take p.length) = U at *
      generalize (w.drop a).take p.length = V at *
      generalize dSl false _ _ _ = SS at *
      generalize F_unlike_of = FU at *
      simp -implicitDefEqProofs [sl, c3]
  have hz' := hz
  unfold Nz at hz'
  unfold F_nearest_in g_nearest_in
  generalize dLc false _ _ _ _ _ = LL at *
  generalize nrL p w = NL at *
  generalize F_check_row = FC at *
  rcases hz' with ⟨a, b, rfl⟩ | ⟨b, _, e⟩
  · simp -implicitDefEqProofs [c1, c2, lc, b]
  · simp -implicitDefEqProofs [c1, c2, lc, b, e]
end
end Lw
set_option Elab.async false
set_option linter.all false
set_option maxRecDepth 100000
set_option maxHeartbeats 2000000
namespace Lw
open PySem PySem.Spec L2 DL
open PyProof.Rows hiding St
theorem lits : Str.ofString "ab" = tx [97, 98] ∧ Str.ofString "abc" = tx [97, 98, 99] ∧ Str.ofString "a" = tx [97] ∧ Str.ofString "b" = tx [98] := by decide +kernel
theorem minI_is {l : List Int} {m : Int} (hm : m ∈ l) (hle : ∀ x ∈ l, m ≤ x) : minI l = m := by
  have ne : l ≠ [] := fun e => by rw [e] at hm; simp at hm
  have z := minI_mem ne
  exact Int.le_antisymm (z.2 m hm) (hle _ z.1)
def nearF (f : Nat → Nat) (n most : Nat) : List PyData := (List.range n).filterMap fun t => if f t ≤ most then some (.tuple [.int (t : Nat), .int (f t : Nat)]) else none
theorem nearF_snoc (f : Nat → Nat) (n most : Nat) : nearF f n most ++ (if f n ≤ most then [.tuple [.int (n : Nat), .int (f n : Nat)]] else []) = nearF f (n + 1) most := by
  unfold nearF
  rw [List.range_succ, List.filterMap_append]
  by_cases q : f n ≤ most <;> simp [q]
theorem nearF_len (f : Nat → Nat) (n most : Nat) : (nearF f n most).length ≤ n := Nat.le_trans (List.length_filterMap_le _ _) (by simp)
theorem cw1_at {S : DS} {h : Hd} {g : List PyData → Option PyData} {m : DS → M D} {d z : PyData} (e : m S h = some (.ok (.t d) h)) (f : g [d] = some z) : dCW g (aCons m aNil) S h = some (.ok (.t z) h) := by
  simp -implicitDefEqProofs [e, f]
theorem ext_at {S : DS} {H : Hd} {i : Nat} {X : DS → M D} {zs N : List PyData} (hi : S[i]? = some (some (.c H.length))) (x : X S (H ++ [.lst N]) = some (.ok (.t (.list zs)) (H ++ [.lst N]))) (few : N.length + zs.length ≤ 16777216) : sDrop (dExt (eVar i) X) S (H ++ [.lst N]) = some (.nx, S, H ++ [.lst (N ++ zs)]) := by
  simp -implicitDefEqProofs [hi, x, few]
section
variable {n k m : Nat} {h H : Hd} {x : Cell} {lot w p : List Nat} {o5 o6 o7 o9 o10 : Option D}
theorem r_0 (hx : h[n]? = some x) (g : Gp k x) (hk : k ≤ 8000) : ∃ (lot : List Nat) (y : Cell), (sSet 1 (dCall F__law_of (aCons (eVar 0) (aCons (dLst false (aCons (eC (.t (.str (Str.ofString "ab")))) (aCons (eC (.t (.str (Str.ofString "abc")))) (aCons (eC (.t (.str (Str.ofString "a")))) aNil)))) aNil)))) [some (.c n), none, none, none, none, none, none, none, none, none, none, none, none, none] h = some (.nx, [some (.c n), some (.t (.str (tx lot))), none, none, none, none, none, none, none, none, none, none, none, none], h.set n y) ∧ (0 < lot.length ∧ lot.length ≤ 10 ∧ ∀ c ∈ lot, c ∈ AZ) ∧ Gp (k + 1) y := by
  obtain ⟨l1, l2, l3, _⟩ := lits
  obtain ⟨t, z, y, e, hz, gy⟩ := law_of_ok (xs := [.str (tx [97, 98]), .str (tx [97, 98, 99]), .str (tx [97])]) hx g (by omega) (by simp) (by simp)
  have fin : ∃ lot, z = .str (tx lot) ∧ (0 < lot.length ∧ lot.length ≤ 10 ∧ ∀ c ∈ lot, c ∈ AZ) := by
    have := List.mem_of_getElem? hz
    simp only [List.mem_cons, List.not_mem_nil, or_false] at this
    rcases this with q | q | q
    · exact ⟨_, q, by decide⟩
    · exact ⟨_, q, by decide⟩
    · exact ⟨_, q, by decide⟩
  obtain ⟨lot, rfl, hl⟩ := fin
  refine ⟨lot, y, ?_, hl, gy⟩
  simp -implicitDefEqProofs [l1, l2, l3, e]
theorem r_1 (hl : 0 < lot.length ∧ lot.length ≤ 10 ∧ ∀ c ∈ lot, c ∈ AZ) (hx : h[n]? = some x) (g : Gp k x) (hk : k ≤ 8000) : ∃ (w p : List Nat) (m : Nat) (y : Cell), (sAsg (gT 3 (gsCons (gN 2) (gsCons (gN 3) (gsCons (gN 4) gsNil)))) (dTup (aCons (dCall F__law_row (aCons (eVar 0) (aCons (eVar 1) (aCons (eC (.t (.int 12))) aNil)))) (aCons (dCall F__law_row (aCons (eVar 0) (aCons (eVar 1) (aCons (eC (.t (.int 5))) aNil)))) (aCons (dCall F__law_take (aCons (eVar 0) (aCons (eC (.t (.int 6))) aNil))) aNil))))) [some (.c n), some (.t (.str (tx lot))), none, none, none, none, none, none, none, none, none, none, none, none] h = some (.nx, [some (.c n), some (.t (.str (tx lot))), some (.t (.str (tx w))), some (.t (.str (tx p))), some (.t (.int (m : Nat))), none, none, none, none, none, none, none, none, none], h.set n y) ∧ (∀ c ∈ w, c ∈ AZ) ∧ w.length ≤ 12 ∧ (∀ c ∈ p, c ∈ AZ) ∧ p.length ≤ 5 ∧ m ≤ 5 ∧ Gp (k + 43) y := by
  obtain ⟨w, y1, e1, hw, wl, g1⟩ := row_ok (m := 12) hx g (by omega) hl.1 hl.2.1 hl.2.2 (by omega)
  obtain ⟨p, y2, e2, hp, pl, g2⟩ := row_ok (m := 5) (set_at' (y := y1) hx) g1 (by omega) hl.1 hl.2.1 hl.2.2 (by omega)
  rw [List.set_set] at e2
  obtain ⟨m, y3, e3, hm, g3⟩ := take_at (u := 6) 6 rfl (set_at' (y := y2) hx) g2 (by omega) (by omega) (by omega)
  rw [List.set_set] at e3
  refine ⟨w, p, m, y3, ?_, hw, wl, hp, pl, by omega, g3.mono (by omega)⟩
  have e1' : F__law_row [.c n, .t (.str (tx lot)), .t (.int 12)] h = _ := e1
  have e2' : F__law_row [.c n, .t (.str (tx lot)), .t (.int 5)] (h.set n y1) = _ := e2
  generalize F__law_row = FR at *
  generalize F__law_take = FT at *
  simp -implicitDefEqProofs [sAsg, gT, gsCons, gsNil, e1', e2', e3]
theorem lc_least {t : Nat} (ht : t ≤ w.length) (wl : w.length ≤ 12) (pl : p.length ≤ 5) : (dLc false (iRg1 (aCons (dBin addP (eVar 6) (eC (.t (.int 1)))) aNil)) (gN 11) tYesD (dCall F__law_least (aCons (eVar 3) (aCons (dSl false (eVar 2) (oSome (eVar 11)) (oSome (eVar 6))) aNil))) [11]) [some (.c n), some (.t (.str (tx lot))), some (.t (.str (tx w))), some (.t (.str (tx p))), some (.t (.int (m : Nat))), o5, some (.t (.int (t : Nat))), o7, none, none, none, none, none, none] h = some (.ok (.t (.list ((List.range (t + 1)).map fun b => .int (ED.eF ((w.take t).drop b) p : Nat)))) h) := by
  have hw' : w.length ≤ 16777216 := by omega
  refine lc_rngM (lo := 0) (n := t + 1) (fun b => .int (ED.eF ((w.take t).drop b) p : Nat)) ?_ (by simp; omega) ?_
  · have q : t < 4611686018427387903 := by omega
    simp -implicitDefEqProofs [q]
  · intro b hb acc
    have ct : cutP w (some (b : Int)) (some (t : Int)) = (w.take t).drop b := by
      rw [cut_ab, List.drop_take]
    have c := @e_law_least p ((w.take t).drop b) (h ++ [.lst acc]) (by omega) (by simp; omega)
    have sl := sl_ab (S := [some (.c n), some (.t (.str (tx lot))), some (.t (.str (tx w))), some (.t (.str (tx p))), some (.t (.int (m : Nat))), o5, some (.t (.int (t : Nat))), o7, none, none, none, some (.t (.int (b : Nat))), none, none]) (h := h ++ [.lst acc]) (ma := eVar 2) (ml := oSome (eVar 11)) (mh := oSome (eVar 6)) (F := w) (lo := some (b : Int)) (hi := some (t : Int)) rfl rfl rfl hw'
    rw [ct] at sl
    generalize ED.eF ((w.take t).drop b) p = v at *
    generalize (w.take t).drop b = V at *
    generalize dSl false _ _ _ = SS at *
    generalize F__law_least = FL at *
    simp -implicitDefEqProofs [sl, c]
theorem min_least {t : Nat} (ht : t ≤ w.length) : minR [.list ((List.range (t + 1)).map fun b => .int (ED.eF ((w.take t).drop b) p : Nat))] = some (.int (gS p w t p.length : Nat)) := by
  obtain ⟨⟨b, hb, e⟩, low⟩ := gS_sel p w t ht p.length (Nat.le_refl _)
  rw [List.take_length] at e low
  rw [List.length_take, Nat.min_eq_left ht] at hb low
  have e1 : ((List.range (t + 1)).map fun b => PyData.int (ED.eF ((w.take t).drop b) p : Nat)) = (((List.range (t + 1)).map fun b => ((ED.eF ((w.take t).drop b) p : Nat) : Int)).map .int) := by rw [List.map_map]; rfl
  obtain ⟨ns, hns⟩ : ∃ ns : List Int, ns = (List.range (t + 1)).map fun b => ((ED.eF ((w.take t).drop b) p : Nat) : Int) := ⟨_, rfl⟩
  have mi : minI ns = (gS p w t p.length : Nat) := by
    refine minI_is ?_ ?_
    · rw [hns, List.mem_map]
      refine ⟨b, List.mem_range.mpr (by omega), ?_⟩
      rw [ED.eF_symm, e]
    · intro z hz
      rw [hns, List.mem_map] at hz
      obtain ⟨b', hb', rfl⟩ := hz
      have := low b' (by have := List.mem_range.mp hb'; omega)
      rw [ED.eF_symm]
      omega
  have ne : ns ≠ [] := fun e => by
    rw [hns] at e
    have := congrArg List.length e
    simp at this
  rw [e1, ← hns]
  unfold minR minQ
  have e2 : minP [.list (ns.map .int)] = some (.int (gS p w t p.length : Nat)) := by
    show (intsP (ns.map .int)).bind _ = _
    rw [intsP_map]
    show (if ns = [] then none else some (PyData.int (minI ns))) = _
    rw [if_neg ne, mi]
  rw [e2]
  rfl
theorem r_3 (wl : w.length ≤ 12) (pl : p.length ≤ 5) : ∃ o6 o7, (sFor (iRg1 (aCons (dBin addP (dCW lenP (aCons (eVar 2) aNil)) (eC (.t (.int 1)))) aNil)) (gN 6) (sSeq (sSet 7 (dCW minR (aCons (dLc false (iRg1 (aCons (dBin addP (eVar 6) (eC (.t (.int 1)))) aNil)) (gN 11) tYesD (dCall F__law_least (aCons (eVar 3) (aCons (dSl false (eVar 2) (oSome (eVar 11)) (oSome (eVar 6))) aNil))) [11]) aNil))) (sDrop (dExt (eVar 5) (dIf (dTest (dBin leP (eVar 7) (eVar 4))) (dLst false (aCons (dTup (aCons (eVar 6) (aCons (eVar 7) aNil))) aNil)) (dLst false aNil)))))) [some (.c n), some (.t (.str (tx lot))), some (.t (.str (tx w))), some (.t (.str (tx p))), some (.t (.int (m : Nat))), some (.c H.length), none, none, none, none, none, none, none, none] (H ++ [.lst []]) = some (.nx, [some (.c n), some (.t (.str (tx lot))), some (.t (.str (tx w))), some (.t (.str (tx p))), some (.t (.int (m : Nat))), some (.c H.length), o6, o7, none, none, none, none, none, none], H ++ [.lst (nearF (fun t => gS p w t p.length) (w.length + 1) m)]) := by
  have hw' : w.length ≤ 16777216 := by omega
  obtain ⟨S2, h2, e, ⟨o6, o7, rfl, rfl⟩⟩ := forL_inv (f := (gN 6)) (b := (sSeq (sSet 7 (dCW minR (aCons (dLc false (iRg1 (aCons (dBin addP (eVar 6) (eC (.t (.int 1)))) aNil)) (gN 11) tYesD (dCall F__law_least (aCons (eVar 3) (aCons (dSl false (eVar 2) (oSome (eVar 11)) (oSome (eVar 6))) aNil))) [11]) aNil))) (sDrop (dExt (eVar 5) (dIf (dTest (dBin leP (eVar 7) (eVar 4))) (dLst false (aCons (dTup (aCons (eVar 6) (aCons (eVar 7) aNil))) aNil)) (dLst false aNil)))))) (fun t S hh => ∃ o6 o7, S = [some (.c n), some (.t (.str (tx lot))), some (.t (.str (tx w))), some (.t (.str (tx p))), some (.t (.int (m : Nat))), some (.c H.length), o6, o7, none, none, none, none, none, none] ∧ hh = H ++ [.lst (nearF (fun t => gS p w t p.length) t m)]) (rngD 0 (w.length + 1)) 0 [some (.c n), some (.t (.str (tx lot))), some (.t (.str (tx w))), some (.t (.str (tx p))), some (.t (.int (m : Nat))), some (.c H.length), none, none, none, none, none, none, none, none] (H ++ [.lst []]) ⟨none, none, rfl, rfl⟩ (fun t x S hh hx ⟨o6, o7, hS, hhh⟩ => by
    obtain ⟨ht, rfl⟩ := rng_at hx
    rw [Int.zero_add]
    rw [Nat.zero_add] at hhh
    subst hS
    subst hhh
    have lc := @lc_least n m (H ++ [.lst (nearF (fun t => gS p w t p.length) t m)]) lot w p (some (.c H.length)) o7 t (by omega) wl pl
    have mn := @min_least w p t (by omega)
    have sn := nearF_snoc (fun t => gS p w t p.length) t m
    have fl := nearF_len (fun t => gS p w t p.length) t m
    clear hx
    refine ⟨[some (.c n), some (.t (.str (tx lot))), some (.t (.str (tx w))), some (.t (.str (tx p))), some (.t (.int (m : Nat))), some (.c H.length), some (.t (.int (t : Nat))), o7, none, none, none, none, none, none], [some (.c n), some (.t (.str (tx lot))), some (.t (.str (tx w))), some (.t (.str (tx p))), some (.t (.int (m : Nat))), some (.c H.length), some (.t (.int (t : Nat))), some (.t (.int (gS p w t p.length : Nat))), none, none, none, none, none, none], H ++ [.lst (nearF (fun t => gS p w t p.length) (t + 1) m)], by simp, ?_, ⟨_, _, rfl, by rw [Nat.zero_add]⟩⟩
    rw [← sn]
    try dsimp only at sn
    try dsimp only at fl
    try dsimp only at mn
    try dsimp only
    have s1 : (sSet 7 (dCW minR (aCons (dLc false (iRg1 (aCons (dBin addP (eVar 6) (eC (.t (.int 1)))) aNil)) (gN 11) tYesD (dCall F__law_least (aCons (eVar 3) (aCons (dSl false (eVar 2) (oSome (eVar 11)) (oSome (eVar 6))) aNil))) [11]) aNil))) [some (.c n), some (.t (.str (tx lot))), some (.t (.str (tx w))), some (.t (.str (tx p))), some (.t (.int (m : Nat))), some (.c H.length), some (.t (.int (t : Nat))), o7, none, none, none, none, none, none] (H ++ [.lst (nearF (fun t => gS p w t p.length) t m)]) = some (.nx, [some (.c n), some (.t (.str (tx lot))), some (.t (.str (tx w))), some (.t (.str (tx p))), some (.t (.int (m : Nat))), some (.c H.length), some (.t (.int (t : Nat))), some (.t (.int (gS p w t p.length : Nat))), none, none, none, none, none, none], H ++ [.lst (nearF (fun t => gS p w t p.length) t m)]) := by
      exact (set_at1 (cw1_at lc mn)).trans rfl
    rw [sSeq_nx s1]
    refine ext_at rfl ?_ ?_
    · generalize gS p w t p.length = v at *
      generalize nearF (fun t => gS p w t p.length) t m = N at *
      by_cases q : v ≤ m
      · simp -implicitDefEqProofs [q]
      · simp -implicitDefEqProofs [q]
    · split <;> simp <;> omega)
  have sl : (rngD 0 (w.length + 1)).length = w.length + 1 := by simp [rngD]
  rw [Nat.zero_add, sl] at e
  refine ⟨o6, o7, ?_⟩
  have it : (iRg1 (aCons (dBin addP (dCW lenP (aCons (eVar 2) aNil)) (eC (.t (.int 1)))) aNil)) [some (.c n), some (.t (.str (tx lot))), some (.t (.str (tx w))), some (.t (.str (tx p))), some (.t (.int (m : Nat))), some (.c H.length), none, none, none, none, none, none, none, none] (H ++ [.lst []]) = some (.ok (rngD 0 (w.length + 1)) (H ++ [.lst []])) := by
    have q : w.length < 4611686018427387903 := by omega
    generalize H ++ [.lst []] = HH
    simp -implicitDefEqProofs [tx_len, hw', q]
  rw [x_sFor, sB_ok it]
  exact e
theorem ok_near {f : Nat → Nat} {n most : Nat} (hn : n ≤ 100) (hm : most ≤ 100) : okR (.tuple (nearF f n most)) = true := by
  refine okE2_tup (B := 20) (fun d hd => ?_) (by have := nearF_len f n most; omega)
  unfold nearF at hd
  obtain ⟨t, ht, e⟩ := List.mem_filterMap.mp hd
  have ht := List.mem_range.mp ht
  by_cases q : f t ≤ most
  · rw [if_pos q] at e
    cases e
    exact okE2_pair (by omega) (by omega)
  · rw [if_neg q] at e; cases e
theorem r_4 (hw : Rw w) (hp : Rw p) (wl : w.length ≤ 12) (pl : p.length ≤ 5) (ml : m ≤ 5) : (sIf (dTest (dBin neP (dCB reprP (aCons (dCall F_nearly_at (aCons (eVar 2) (aCons (eVar 3) (aCons (eVar 4) aNil)))) aNil)) (dCB reprP (aCons (dCW tupP (aCons (eVar 5) aNil)) aNil)))) (sRet (eC (.t (.bool false)))) sNext) [some (.c n), some (.t (.str (tx lot))), some (.t (.str (tx w))), some (.t (.str (tx p))), some (.t (.int (m : Nat))), some (.c H.length), o6, o7, none, none, none, none, none, none] (H ++ [.lst (nearF (fun t => gS p w t p.length) (w.length + 1) m)]) = some (.nx, [some (.c n), some (.t (.str (tx lot))), some (.t (.str (tx w))), some (.t (.str (tx p))), some (.t (.int (m : Nat))), some (.c H.length), o6, o7, none, none, none, none, none, none], H ++ [.lst (nearF (fun t => gS p w t p.length) (w.length + 1) m)]) := by
  have c := fun hh => @e_nearly_at p w hh m hw hp (by omega) (by omega)
  have e : nearL (fun t => gS p w t p.length) w.length m = nearF (fun t => gS p w t p.length) (w.length + 1) m := rfl
  rw [e] at c
  have ok := ok_near (f := fun t => gS p w t p.length) (n := w.length + 1) (most := m) (by omega) (by omega)
  generalize nearF (fun t => gS p w t p.length) (w.length + 1) m = N at *
  generalize F_nearly_at = FN at *
  refine if_no (test_at (bin_at (h1 := H ++ [.lst N]) (a := .str (PyData.tuple N).shown) (b := .str (PyData.tuple N).shown) (repr_at (one_at ?_) ok) (repr_at (one_at ?_) ok) (ne_same _)))
  · simp -implicitDefEqProofs [c]
  · simp -implicitDefEqProofs [rdws]
theorem slice_at {S : DS} {hh : Hd} {a : Nat} (ew : S[2]? = some (some (.t (.str (tx w))))) (ep : S[3]? = some (some (.t (.str (tx p))))) (ea : S[9]? = some (some (.t (.int (a : Nat))))) (wl : w.length ≤ 12) (pl : p.length ≤ 5) : dSl false (eVar 2) (oSome (eVar 9)) (oSome (dBin addP (eVar 9) (dCW lenP (aCons (eVar 3) aNil)))) S hh = some (.ok (.t (.str (tx ((w.drop a).take p.length)))) hh) := by
  have hp' : p.length ≤ 16777216 := by omega
  have ct : cutP w (some (a : Int)) (some ((a + p.length : Nat) : Int)) = (w.drop a).take p.length := by rw [cut_ab, Nat.add_sub_cancel_left]
  have sl := sl_ab (S := S) (h := hh) (ma := eVar 2) (ml := oSome (eVar 9)) (mh := oSome (dBin addP (eVar 9) (dCW lenP (aCons (eVar 3) aNil)))) (F := w) (lo := some (a : Int)) (hi := some ((a + p.length : Nat) : Int)) (by simp -implicitDefEqProofs [ew]) (by simp -implicitDefEqProofs [ea]) (by simp -implicitDefEqProofs [ea, ep, tx_len, hp']) (by omega)
  rw [ct] at sl
  exact sl
def nrF (p w : List Nat) (n : Nat) : List PyData := (List.range n).map fun a => .tuple [.int ((unL p ((w.drop a).take p.length)).length : Nat), .int (a : Nat)]
theorem nrF_snoc (p w : List Nat) (n : Nat) : nrF p w n ++ [.tuple [.int ((unL p ((w.drop n).take p.length)).length : Nat), .int (n : Nat)]] = nrF p w (n + 1) := by
  unfold nrF
  rw [List.range_succ, List.map_append]
  rfl
theorem r_6 (hw : Rw w) (hp : Rw p) (wl : w.length ≤ 12) (pl : p.length ≤ 5) : ∃ o9 o10, (sFor (iRg1 (aCons (dBin addP (dBin subP (dCW lenP (aCons (eVar 2) aNil)) (dCW lenP (aCons (eVar 3) aNil))) (eC (.t (.int 1)))) aNil)) (gN 9) (sSeq (sSet 10 (dCW lenP (aCons (dLc false (iZipA (aCons (eVar 3) (aCons (dSl false (eVar 2) (oSome (eVar 9)) (oSome (dBin addP (eVar 9) (dCW lenP (aCons (eVar 3) aNil))))) aNil))) (gT 2 (gsCons (gN 12) (gsCons (gN 13) gsNil))) (dTest (dBin neP (eVar 12) (eVar 13))) (eC (.t (.int 1))) [12, 13]) aNil))) (sSeq (sDrop (dApp (eVar 8) (dTup (aCons (eVar 10) (aCons (eVar 9) aNil))))) (sIf (tOrD (dTest (dBin neP (dCB reprP (aCons (dCall F_unlike (aCons (eVar 3) (aCons (dSl false (eVar 2) (oSome (eVar 9)) (oSome (dBin addP (eVar 9) (dCW lenP (aCons (eVar 3) aNil))))) aNil))) aNil)) (dCB reprP (aCons (eVar 10) aNil)))) (dTest (dBin neP (dCall F_least_changes (aCons (eVar 3) (aCons (dSl false (eVar 2) (oSome (eVar 9)) (oSome (dBin addP (eVar 9) (dCW lenP (aCons (eVar 3) aNil))))) aNil))) (dCall F__law_least (aCons (eVar 3) (aCons (dSl false (eVar 2) (oSome (eVar 9)) (oSome (dBin addP (eVar 9) (dCW lenP (aCons (eVar 3) aNil))))) aNil)))))) (sRet (eC (.t (.bool false)))) sNext)))) [some (.c n), some (.t (.str (tx lot))), some (.t (.str (tx w))), some (.t (.str (tx p))), some (.t (.int (m : Nat))), o5, o6, o7, some (.c H.length), none, none, none, none, none] (H ++ [.lst []]) = some (.nx, [some (.c n), some (.t (.str (tx lot))), some (.t (.str (tx w))), some (.t (.str (tx p))), some (.t (.int (m : Nat))), o5, o6, o7, some (.c H.length), o9, o10, none, none, none], H ++ [.lst (nrL p w)]) := by
  have hw' : w.length ≤ 16777216 := by omega
  have hp' : p.length ≤ 16777216 := by omega
  obtain ⟨S2, h2, e, ⟨o9, o10, rfl, rfl⟩⟩ := forL_inv (f := (gN 9)) (b := (sSeq (sSet 10 (dCW lenP (aCons (dLc false (iZipA (aCons (eVar 3) (aCons (dSl false (eVar 2) (oSome (eVar 9)) (oSome (dBin addP (eVar 9) (dCW lenP (aCons (eVar 3) aNil))))) aNil))) (gT 2 (gsCons (gN 12) (gsCons (gN 13) gsNil))) (dTest (dBin neP (eVar 12) (eVar 13))) (eC (.t (.int 1))) [12, 13]) aNil))) (sSeq (sDrop (dApp (eVar 8) (dTup (aCons (eVar 10) (aCons (eVar 9) aNil))))) (sIf (tOrD (dTest (dBin neP (dCB reprP (aCons (dCall F_unlike (aCons (eVar 3) (aCons (dSl false (eVar 2) (oSome (eVar 9)) (oSome (dBin addP (eVar 9) (dCW lenP (aCons (eVar 3) aNil))))) aNil))) aNil)) (dCB reprP (aCons (eVar 10) aNil)))) (dTest (dBin neP (dCall F_least_changes (aCons (eVar 3) (aCons (dSl false (eVar 2) (oSome (eVar 9)) (oSome (dBin addP (eVar 9) (dCW lenP (aCons (eVar 3) aNil))))) aNil))) (dCall F__law_least (aCons (eVar 3) (aCons (dSl false (eVar 2) (oSome (eVar 9)) (oSome (dBin addP (eVar 9) (dCW lenP (aCons (eVar 3) aNil))))) aNil)))))) (sRet (eC (.t (.bool false)))) sNext)))) (fun a S hh => ∃ o9 o10, S = [some (.c n), some (.t (.str (tx lot))), some (.t (.str (tx w))), some (.t (.str (tx p))), some (.t (.int (m : Nat))), o5, o6, o7, some (.c H.length), o9, o10, none, none, none] ∧ hh = H ++ [.lst (nrF p w a)]) (rngD 0 (w.length + 1 - p.length)) 0 [some (.c n), some (.t (.str (tx lot))), some (.t (.str (tx w))), some (.t (.str (tx p))), some (.t (.int (m : Nat))), o5, o6, o7, some (.c H.length), none, none, none, none, none] (H ++ [.lst []]) ⟨none, none, rfl, rfl⟩ (fun a x S hh hx ⟨o9, o10, hS, hhh⟩ => by
    obtain ⟨ha, rfl⟩ := rng_at hx
    rw [Int.zero_add]
    rw [Nat.zero_add] at hhh
    subst hS
    subst hhh
    have vl : ((w.drop a).take p.length).length = p.length := by simp; omega
    have vr : Rw ((w.drop a).take p.length) := ⟨fun c hc => hw.1 c (List.mem_of_mem_drop (List.mem_of_mem_take hc)), by omega⟩
    have ul := unL_len p ((w.drop a).take p.length)
    have ok := okR_int (k := (unL p ((w.drop a).take p.length)).length) (by omega)
    have sn := nrF_snoc p w a
    have nl : (nrF p w a).length = a := by simp [nrF]
    have lc := lc_un (S := [some (.c n), some (.t (.str (tx lot))), some (.t (.str (tx w))), some (.t (.str (tx p))), some (.t (.int (m : Nat))), o5, o6, o7, some (.c H.length), some (.t (.int (a : Nat))), o10, none, none, none]) (h := H ++ [.lst (nrF p w a)]) (p := p) (w := (w.drop a).take p.length) (ms := (aCons (eVar 3) (aCons (dSl false (eVar 2) (oSome (eVar 9)) (oSome (dBin addP (eVar 9) (dCW lenP (aCons (eVar 3) aNil))))) aNil))) (i := 12) (j := 13) (by
      have s := slice_at (S := [some (.c n), some (.t (.str (tx lot))), some (.t (.str (tx w))), some (.t (.str (tx p))), some (.t (.int (m : Nat))), o5, o6, o7, some (.c H.length), some (.t (.int (a : Nat))), o10, none, none, none]) (hh := H ++ [.lst (nrF p w a)]) (a := a) (w := w) (p := p) rfl rfl rfl wl pl
      generalize dSl false _ _ _ = SS at *
      simp -implicitDefEqProofs [s]) (by omega) (fun b c acc => by
      by_cases q : b = c
      · simp -implicitDefEqProofs [gT, gsCons, gsNil, q]
      · simp -implicitDefEqProofs [gT, gsCons, gsNil, q])
    refine ⟨[some (.c n), some (.t (.str (tx lot))), some (.t (.str (tx w))), some (.t (.str (tx p))), some (.t (.int (m : Nat))), o5, o6, o7, some (.c H.length), some (.t (.int (a : Nat))), o10, none, none, none], [some (.c n), some (.t (.str (tx lot))), some (.t (.str (tx w))), some (.t (.str (tx p))), some (.t (.int (m : Nat))), o5, o6, o7, some (.c H.length), some (.t (.int (a : Nat))), some (.t (.int ((unL p ((w.drop a).take p.length)).length : Nat))), none, none, none], H ++ [.lst (nrF p w (a + 1))], by simp, ?_, ⟨_, _, rfl, by rw [Nat.zero_add]⟩⟩
    have s1 : (sSet 10 (dCW lenP (aCons (dLc false (iZipA (aCons (eVar 3) (aCons (dSl false (eVar 2) (oSome (eVar 9)) (oSome (dBin addP (eVar 9) (dCW lenP (aCons (eVar 3) aNil))))) aNil))) (gT 2 (gsCons (gN 12) (gsCons (gN 13) gsNil))) (dTest (dBin neP (eVar 12) (eVar 13))) (eC (.t (.int 1))) [12, 13]) aNil))) [some (.c n), some (.t (.str (tx lot))), some (.t (.str (tx w))), some (.t (.str (tx p))), some (.t (.int (m : Nat))), o5, o6, o7, some (.c H.length), some (.t (.int (a : Nat))), o10, none, none, none] (H ++ [.lst (nrF p w a)]) = some (.nx, [some (.c n), some (.t (.str (tx lot))), some (.t (.str (tx w))), some (.t (.str (tx p))), some (.t (.int (m : Nat))), o5, o6, o7, some (.c H.length), some (.t (.int (a : Nat))), some (.t (.int ((unL p ((w.drop a).take p.length)).length : Nat))), none, none, none], H ++ [.lst (nrF p w a)]) := by
      generalize dLc false _ _ _ _ _ = LC at *
      generalize unL p ((w.drop a).take p.length) = U at *
      simp -implicitDefEqProofs [lc]
    have s2 : (sDrop (dApp (eVar 8) (dTup (aCons (eVar 10) (aCons (eVar 9) aNil))))) [some (.c n), some (.t (.str (tx lot))), some (.t (.str (tx w))), some (.t (.str (tx p))), some (.t (.int (m : Nat))), o5, o6, o7, some (.c H.length), some (.t (.int (a : Nat))), some (.t (.int ((unL p ((w.drop a).take p.length)).length : Nat))), none, none, none] (H ++ [.lst (nrF p w a)]) = some (.nx, [some (.c n), some (.t (.str (tx lot))), some (.t (.str (tx w))), some (.t (.str (tx p))), some (.t (.int (m : Nat))), o5, o6, o7, some (.c H.length), some (.t (.int (a : Nat))), some (.t (.int ((unL p ((w.drop a).take p.length)).length : Nat))), none, none, none], H ++ [.lst (nrF p w (a + 1))]) := by
      rw [← sn]
      have f1 : (nrF p w a).length < 16777216 := by omega
      generalize unL p ((w.drop a).take p.length) = U at *
      generalize nrF p w a = NR at *
      simp -implicitDefEqProofs [f1]
    have sla := fun hh => slice_at (S := [some (.c n), some (.t (.str (tx lot))), some (.t (.str (tx w))), some (.t (.str (tx p))), some (.t (.int (m : Nat))), o5, o6, o7, some (.c H.length), some (.t (.int (a : Nat))), some (.t (.int ((unL p ((w.drop a).take p.length)).length : Nat))), none, none, none]) (hh := hh) (a := a) (w := w) (p := p) rfl rfl rfl wl pl
    have c1 := fun hh => @e_unlike p ((w.drop a).take p.length) hh hp vr vl.symm
    have c2 := fun hh => @e_least_changes p ((w.drop a).take p.length) hh hp vr (by omega) (by omega)
    have c3 := fun hh => @e_law_least p ((w.drop a).take p.length) hh (by omega) (by omega)
    have s3 : (sIf (tOrD (dTest (dBin neP (dCB reprP (aCons (dCall F_unlike (aCons (eVar 3) (aCons (dSl false (eVar 2) (oSome (eVar 9)) (oSome (dBin addP (eVar 9) (dCW lenP (aCons (eVar 3) aNil))))) aNil))) aNil)) (dCB reprP (aCons (eVar 10) aNil)))) (dTest (dBin neP (dCall F_least_changes (aCons (eVar 3) (aCons (dSl false (eVar 2) (oSome (eVar 9)) (oSome (dBin addP (eVar 9) (dCW lenP (aCons (eVar 3) aNil))))) aNil))) (dCall F__law_least (aCons (eVar 3) (aCons (dSl false (eVar 2) (oSome (eVar 9)) (oSome (dBin addP (eVar 9) (dCW lenP (aCons (eVar 3) aNil))))) aNil)))))) (sRet (eC (.t (.bool false)))) sNext) [some (.c n), some (.t (.str (tx lot))), some (.t (.str (tx w))), some (.t (.str (tx p))), some (.t (.int (m : Nat))), o5, o6, o7, some (.c H.length), some (.t (.int (a : Nat))), some (.t (.int ((unL p ((w.drop a).take p.length)).length : Nat))), none, none, none] (H ++ [.lst (nrF p w (a + 1))]) = some (.nx, [some (.c n), some (.t (.str (tx lot))), some (.t (.str (tx w))), some (.t (.str (tx p))), some (.t (.int (m : Nat))), o5, o6, o7, some (.c H.length), some (.t (.int (a : Nat))), some (.t (.int ((unL p ((w.drop a).take p.length)).length : Nat))), none, none, none], H ++ [.lst (nrF p w (a + 1))]) := by
      generalize unL p ((w.drop a).take p.length) = U at *
      generalize ED.eF ((w.drop a).take p.length) p = v at *
      generalize (w.drop a).take p.length = V at *
      generalize nrF p w (a + 1) = NR at *
      generalize dSl false _ _ _ = SS at *
      generalize F_unlike = FU at *
      generalize F_least_changes = FC at *
      generalize F__law_least = FL at *
      refine if_or (test_at (bin_at (h1 := H ++ [.lst NR]) (a := .str (PyData.int (U.length : Nat)).shown) (b := .str (PyData.int (U.length : Nat)).shown) (repr_at (one_at ?_) ok) (repr_at (one_at ?_) ok) (ne_same _))) (test_at (bin_at (h1 := H ++ [.lst NR]) (a := .int (v : Nat)) (b := .int (v : Nat)) ?_ ?_ (by simp)))
      · simp -implicitDefEqProofs [sla, c1]
      · simp -implicitDefEqProofs
      · simp -implicitDefEqProofs [sla, c2]
      · simp -implicitDefEqProofs [sla, c3]
    rw [sSeq_nx s1, sSeq_nx s2, s3])
  have sl : (rngD 0 (w.length + 1 - p.length)).length = w.length + 1 - p.length := by simp [rngD]
  rw [Nat.zero_add, sl] at e
  refine ⟨o9, o10, ?_⟩
  rw [x_sFor, sB_ok (a := rngD 0 (w.length + 1 - p.length)) (h' := H ++ [.lst []]) (by
    simp [x_inR, tx_len, hw', hp']
    exact rg1_h (by omega) (by omega) (by omega))]
  exact e
theorem r_7 (hw : Rw w) (hp : Rw p) (wl : w.length ≤ 12) (pl : p.length ≤ 5) : (sIf (dTest (dBin neP (dCB reprP (aCons (dCall F_nearest_in (aCons (eVar 2) (aCons (eVar 3) aNil))) aNil)) (dCB reprP (aCons (dIf (dTest (dBin neP (eVar 8) (dLst false aNil))) (dCW minR (aCons (eVar 8) aNil)) (eC (.t .none))) aNil)))) (sRet (eC (.t (.bool false)))) sNext) [some (.c n), some (.t (.str (tx lot))), some (.t (.str (tx w))), some (.t (.str (tx p))), some (.t (.int (m : Nat))), o5, o6, o7, some (.c H.length), o9, o10, none, none, none] (H ++ [.lst (nrL p w)]) = some (.nx, [some (.c n), some (.t (.str (tx lot))), some (.t (.str (tx w))), some (.t (.str (tx p))), some (.t (.int (m : Nat))), o5, o6, o7, some (.c H.length), o9, o10, none, none, none], H ++ [.lst (nrL p w)]) := by
  obtain ⟨z, hz⟩ := nz_ex p w
  have c := fun hh => @e_nearest_in p w hh z hp hw hz
  have ok := okR_nz hz (by omega) (by omega)
  unfold Nz at hz
  generalize nrL p w = N at *
  generalize F_nearest_in = FN at *
  refine if_no (test_at (bin_at (h1 := H ++ [.lst N]) (a := .str z.shown) (b := .str z.shown) (repr_at (one_at ?_) ok) (repr_at (one_at ?_) ok) (ne_same _)))
  · simp -implicitDefEqProofs [c]
  · rcases hz with ⟨a, b, rfl⟩ | ⟨b, _, e⟩
    · simp -implicitDefEqProofs [rd, b]
    · simp -implicitDefEqProofs [rd, rdws, b, e]
theorem r_8 (hw : Rw w) (hp : Rw p) (wl : w.length ≤ 12) (pl : p.length ≤ 5) : (sRet (dAnd (dBin eqP (dCall F_unlike (aCons (eVar 2) (aCons (dRevA false (eVar 2)) aNil))) (dCW lenP (aCons (dLc false (iZipA (aCons (eVar 2) (aCons (dRevA false (eVar 2)) aNil))) (gT 2 (gsCons (gN 12) (gsCons (gN 13) gsNil))) (dTest (dBin neP (eVar 12) (eVar 13))) (eC (.t (.int 1))) [12, 13]) aNil))) (dBin eqP (dCall F_least_changes (aCons (dRevA false (eVar 2)) (aCons (dRevA false (eVar 3)) aNil))) (dCall F_least_changes (aCons (eVar 2) (aCons (eVar 3) aNil)))))) [some (.c n), some (.t (.str (tx lot))), some (.t (.str (tx w))), some (.t (.str (tx p))), some (.t (.int (m : Nat))), o5, o6, o7, some (.c H.length), o9, o10, none, none, none] h = some (.rt (.t (.bool true)), [some (.c n), some (.t (.str (tx lot))), some (.t (.str (tx w))), some (.t (.str (tx p))), some (.t (.int (m : Nat))), o5, o6, o7, some (.c H.length), o9, o10, none, none, none], h) := by
  have hw' : w.length ≤ 16777216 := by omega
  have hp' : p.length ≤ 16777216 := by omega
  have wr : Rw w.reverse := ⟨fun c hc => hw.1 c (List.mem_reverse.mp hc), by simp; omega⟩
  have pr : Rw p.reverse := ⟨fun c hc => hp.1 c (List.mem_reverse.mp hc), by simp; omega⟩
  have c1 := @e_unlike w w.reverse h hw wr (by simp)
  have c2 := @e_least_changes w.reverse p.reverse h wr pr (by simp; omega) (by simp; omega)
  rw [ED.eF_rev] at c2
  have c3 := @e_least_changes w p h hw hp (by omega) (by omega)
  have lc := lc_un (S := [some (.c n), some (.t (.str (tx lot))), some (.t (.str (tx w))), some (.t (.str (tx p))), some (.t (.int (m : Nat))), o5, o6, o7, some (.c H.length), o9, o10, none, none, none]) (h := h) (p := w) (w := w.reverse) (ms := (aCons (eVar 2) (aCons (dRevA false (eVar 2)) aNil))) (i := 12) (j := 13) (by simp -implicitDefEqProofs [tx_len, hw']) (by omega) (fun b c acc => by
    by_cases q : b = c
    · simp -implicitDefEqProofs [gT, gsCons, gsNil, q]
    · simp -implicitDefEqProofs [gT, gsCons, gsNil, q])
  generalize unL w w.reverse = U at *
  generalize ED.eF p w = v at *
  have e1 : (dBin eqP (dCall F_unlike (aCons (eVar 2) (aCons (dRevA false (eVar 2)) aNil))) (dCW lenP (aCons (dLc false (iZipA (aCons (eVar 2) (aCons (dRevA false (eVar 2)) aNil))) (gT 2 (gsCons (gN 12) (gsCons (gN 13) gsNil))) (dTest (dBin neP (eVar 12) (eVar 13))) (eC (.t (.int 1))) [12, 13]) aNil))) [some (.c n), some (.t (.str (tx lot))), some (.t (.str (tx w))), some (.t (.str (tx p))), some (.t (.int (m : Nat))), o5, o6, o7, some (.c H.length), o9, o10, none, none, none] h = some (.ok (.t (.bool true)) h) := by
    refine bin_at (h1 := h) (a := .int (U.length : Nat)) (b := .int (U.length : Nat)) ?_ ?_ (by simp)
    · generalize F_unlike = FU at *
      simp -implicitDefEqProofs [tx_len, hw', c1]
    · generalize dLc false _ _ _ _ _ = LC at *
      simp -implicitDefEqProofs [lc]
  have e2 : (dBin eqP (dCall F_least_changes (aCons (dRevA false (eVar 2)) (aCons (dRevA false (eVar 3)) aNil))) (dCall F_least_changes (aCons (eVar 2) (aCons (eVar 3) aNil)))) [some (.c n), some (.t (.str (tx lot))), some (.t (.str (tx w))), some (.t (.str (tx p))), some (.t (.int (m : Nat))), o5, o6, o7, some (.c H.length), o9, o10, none, none, none] h = some (.ok (.t (.bool true)) h) := by
    refine bin_at (h1 := h) (a := .int (v : Nat)) (b := .int (v : Nat)) ?_ ?_ (by simp)
    · generalize F_least_changes = FC at *
      simp -implicitDefEqProofs [tx_len, hw', hp', c2]
    · generalize F_least_changes = FC at *
      simp -implicitDefEqProofs [c3]
  generalize (dBin eqP (dCall F_unlike (aCons (eVar 2) (aCons (dRevA false (eVar 2)) aNil))) (dCW lenP (aCons (dLc false (iZipA (aCons (eVar 2) (aCons (dRevA false (eVar 2)) aNil))) (gT 2 (gsCons (gN 12) (gsCons (gN 13) gsNil))) (dTest (dBin neP (eVar 12) (eVar 13))) (eC (.t (.int 1))) [12, 13]) aNil))) = Q1 at *
  generalize (dBin eqP (dCall F_least_changes (aCons (dRevA false (eVar 2)) (aCons (dRevA false (eVar 3)) aNil))) (dCall F_least_changes (aCons (eVar 2) (aCons (eVar 3) aNil)))) = Q2 at *
  simp -implicitDefEqProofs [e1, e2]
end
theorem right_ok {n k : Nat} {h : Hd} {x : Cell} (hx : h[n]? = some x) (g : Gp k x) (hk : k ≤ 7000) : ∃ y, F__law_right [.c n] h = some (.ok (.t (.bool true)) (h.set n y)) ∧ Gp (k + 44) y := by
  obtain ⟨lot, y0, e0, hl, g0⟩ := r_0 hx g (by omega)
  obtain ⟨w, p, m, y1, e1, a1, wl, a2, pl, ml, g1⟩ := r_1 hl (set_at' (y := y0) hx) g0 (by omega)
  rw [List.set_set] at e1
  have hw : Rw w := ⟨a1, by omega⟩
  have hp : Rw p := ⟨a2, by omega⟩
  obtain ⟨H, hH⟩ : ∃ H, H = h.set n y1 := ⟨_, rfl⟩
  have hn : H.length = h.length := by rw [hH]; simp
  obtain ⟨o6, o7, e3⟩ := @r_3 n m H lot w p wl pl
  obtain ⟨N, hN⟩ : ∃ N, N = nearF (fun t => gS p w t p.length) (w.length + 1) m := ⟨_, rfl⟩
  have e4 := @r_4 n m H lot w p o6 o7 hw hp wl pl ml
  rw [← hN] at e3 e4
  obtain ⟨o9, o10, e6⟩ := @r_6 n m (H ++ [.lst N]) lot w p (some (.c H.length)) o6 o7 hw hp wl pl
  have e7 := @r_7 n m (H ++ [.lst N]) lot w p (some (.c H.length)) o6 o7 o9 o10 hw hp wl pl
  have e8 := @r_8 n m (H ++ [.lst N] ++ [.lst (nrL p w)]) (H ++ [.lst N]) lot w p (some (.c H.length)) o6 o7 o9 o10 hw hp wl pl
  rw [← hH] at e1
  refine ⟨y1, ?_, g1.mono (by omega)⟩
  have s2 : (sSet 5 (dLst true aNil)) [some (.c n), some (.t (.str (tx lot))), some (.t (.str (tx w))), some (.t (.str (tx p))), some (.t (.int (m : Nat))), none, none, none, none, none, none, none, none, none] H = some (.nx, [some (.c n), some (.t (.str (tx lot))), some (.t (.str (tx w))), some (.t (.str (tx p))), some (.t (.int (m : Nat))), some (.c H.length), none, none, none, none, none, none, none, none], H ++ [.lst []]) := by
    simp -implicitDefEqProofs
  have s5 : (sSet 8 (dLst true aNil)) [some (.c n), some (.t (.str (tx lot))), some (.t (.str (tx w))), some (.t (.str (tx p))), some (.t (.int (m : Nat))), some (.c H.length), o6, o7, none, none, none, none, none, none] (H ++ [.lst N]) = some (.nx, [some (.c n), some (.t (.str (tx lot))), some (.t (.str (tx w))), some (.t (.str (tx p))), some (.t (.int (m : Nat))), some (.c H.length), o6, o7, some (.c (H ++ [Cell.lst N]).length), none, none, none, none, none], H ++ [.lst N] ++ [.lst []]) := by
    simp -implicitDefEqProofs
  have e : g__law_right [some (.c n), none, none, none, none, none, none, none, none, none, none, none, none, none] h = some (.rt (.t (.bool true)), [some (.c n), some (.t (.str (tx lot))), some (.t (.str (tx w))), some (.t (.str (tx p))), some (.t (.int (m : Nat))), some (.c H.length), o6, o7, some (.c (H ++ [Cell.lst N]).length), o9, o10, none, none, none], H ++ [.lst N] ++ [.lst (nrL p w)]) := by
    unfold g__law_right
    rw [sSeq_nx e0, sSeq_nx e1, sSeq_nx s2, sSeq_nx e3, sSeq_nx e4, sSeq_nx s5, sSeq_nx e6, sSeq_nx e7, e8]
  have tk : (H ++ [Cell.lst N] ++ [Cell.lst (nrL p w)]).take h.length = h.set n y1 := by
    rw [← hn, List.append_assoc, List.take_append_of_le_length (Nat.le_refl _), List.take_length, hH]
  rw [List.append_assoc] at e tk
  simp -implicitDefEqProofs [F__law_right, e]
  simpa using tk
end Lw
set_option Elab.async false
set_option linter.all false
set_option maxRecDepth 100000
set_option maxHeartbeats 2000000
namespace Lw
open PySem PySem.Spec L2 DL
open PyProof.Rows hiding St
theorem rep_c (c k : Nat) (h : k ≤ 50000) : mulP (.str (tx [c])) (.int (k : Nat)) = some (.str (tx (List.replicate k c))) := by
  have q6 : k < 9223372036854775808 := by omega
  have q7 : k ≤ 16777216 := by omega
  have e : repS (tx [c]) k = tx (List.replicate k c) := by rw [rep_tx]; simp
  show (if okI (k : Int) && decide ((tx [c]).length * (k : Int).toNat ≤ 16777216) then some (PyData.str (repS (tx [c]) (k : Int).toNat)) else none) = _
  rw [Int.toNat_natCast, e, okI_nat, decide_eq_true q6, tx_len, decide_eq_true (by simpa using q7)]
  rfl
theorem rep_rw {c k : Nat} (hc : c ∈ AZ) (hk : k ≤ 400) : Rw (List.replicate k c) := ⟨fun d hd => by rw [List.eq_of_mem_replicate hd]; exact hc, by simpa using hk⟩
theorem okR_sh {d : PyData} (h : okR d = true) : SeqAt.shaped d = true := by
  simp only [okR, Bool.and_eq_true] at h
  exact h.2.1
theorem getD_rep {c k i : Nat} (h : i < k) : (List.replicate k c).getD i 0 = c := by simp [h]
theorem gS_same {c m n : Nat} : ∀ j, j ≤ n → ∀ i, i ≤ m → gS (List.replicate m c) (List.replicate n c) j i = i - j
  | 0, _, i, _ => by show i = i - 0; omega
  | j + 1, hj, i, hi => by
    have ih := fun i hi => gS_same (c := c) (m := m) (n := n) j (by omega) i hi
    have key : ∀ i, i ≤ m → ED.nxt (gS (List.replicate m c) (List.replicate n c) j) (List.replicate m c) c 0 i = i - (j + 1) := by
      intro i
      induction i with
      | zero => intro _; rw [ED.nxt]; omega
      | succ i ih2 =>
        intro h
        have cs : ED.cst ((List.replicate m c).getD i 0) c = 0 := by rw [getD_rep (by omega)]; simp [ED.cst]
        rw [ED.nxt, ih i (by omega), ih (i + 1) h, ih2 (by omega), cs]
        omega
    show ED.nxt (gS (List.replicate m c) (List.replicate n c) j) (List.replicate m c) ((List.replicate n c).getD j 0) 0 i = _
    rw [getD_rep (by omega)]
    exact key i hi
theorem gS_diff {c d m n : Nat} (cd : d ≠ c) : ∀ j, j ≤ n → ∀ i, i ≤ m → gS (List.replicate m d) (List.replicate n c) j i = i
  | 0, _, i, _ => rfl
  | j + 1, hj, i, hi => by
    have ih := fun i hi => gS_diff (c := c) (d := d) (m := m) (n := n) cd j (by omega) i hi
    have key : ∀ i, i ≤ m → ED.nxt (gS (List.replicate m d) (List.replicate n c) j) (List.replicate m d) c 0 i = i := by
      intro i
      induction i with
      | zero => intro _; rw [ED.nxt]
      | succ i ih2 =>
        intro h
        have cs : ED.cst ((List.replicate m d).getD i 0) c = 1 := by rw [getD_rep (by omega)]; simp [ED.cst, cd]
        rw [ED.nxt, ih i (by omega), ih (i + 1) h, ih2 (by omega), cs]
        omega
    show ED.nxt (gS (List.replicate m d) (List.replicate n c) j) (List.replicate m d) ((List.replicate n c).getD j 0) 0 i = _
    rw [getD_rep (by omega)]
    exact key i hi
theorem fm_congr {α β : Type} {f g : α → Option β} : ∀ {l : List α}, (∀ x ∈ l, f x = g x) → l.filterMap f = l.filterMap g
  | [], _ => rfl
  | x :: l, h => by
    have ih := fm_congr (l := l) fun y hy => h y (by simp [hy])
    rw [List.filterMap_cons, List.filterMap_cons, h x (by simp), ih]
theorem near_from {f : Nat → Nat} {a b : Nat} (h1 : ∀ t, t < a → 0 < f t) (h2 : ∀ i, i ≤ b → f (a + i) = 0) : nearL f (a + b) 0 = (List.range (b + 1)).map fun i => .tuple [.int ((a + i : Nat) : Int), .int 0] := by
  unfold nearL
  rw [Nat.add_assoc, List.range_add, List.filterMap_append, List.filterMap_map]
  have e1 : (List.range a).filterMap (fun t => if f t ≤ 0 then some (PyData.tuple [.int (t : Nat), .int (f t : Nat)]) else none) = [] := by
    rw [List.filterMap_eq_nil_iff]
    intro t ht
    have := h1 t (List.mem_range.mp ht)
    rw [if_neg (by omega)]
  rw [e1, List.nil_append, ← List.filterMap_eq_map]
  refine fm_congr fun i hi => ?_
  have hi := List.mem_range.mp hi
  show (if f (a + i) ≤ 0 then some (PyData.tuple [.int ((a + i : Nat) : Int), .int (f (a + i) : Nat)]) else none) = some _
  rw [h2 i (by omega)]
  rfl
theorem near_none {f : Nat → Nat} {n m : Nat} (h : ∀ t, t ≤ n → m < f t) : nearL f n m = [] := by
  unfold nearL
  rw [List.filterMap_eq_nil_iff]
  intro t ht
  have ht := List.mem_range.mp ht
  have := h t (by omega)
  rw [if_neg (by omega)]
def A400 : List Nat := List.replicate 400 97
def A60 : List Nat := List.replicate 60 97
theorem near_a : nearL (fun t => gS A60 A400 t A60.length) A400.length 0 = (List.range 341).map fun i => .tuple [.int ((60 + i : Nat) : Int), .int 0] := by
  have l1 : A60.length = 60 := List.length_replicate ..
  have l2 : A400.length = 60 + 340 := List.length_replicate ..
  rw [l1, l2]
  refine near_from (fun t ht => ?_) (fun i hi => ?_)
  · show 0 < gS (List.replicate 60 97) (List.replicate 400 97) t 60
    rw [gS_same t (by omega) 60 (Nat.le_refl _)]
    omega
  · show gS (List.replicate 60 97) (List.replicate 400 97) (60 + i) 60 = 0
    rw [gS_same (60 + i) (by omega) 60 (Nat.le_refl _)]
    omega
theorem near_b : nearL (fun t => gS (List.replicate 60 98) (List.replicate 5 97) t (List.replicate 60 98).length) (List.replicate 5 97).length 59 = [] := by
  refine near_none fun t ht => ?_
  rw [List.length_replicate] at ht
  show 59 < gS (List.replicate 60 98) (List.replicate 5 97) t (List.replicate 60 98).length
  rw [List.length_replicate, gS_diff (by decide) t ht 60 (Nat.le_refl _)]
  omega
/-! the nearest one among alike ones -/
theorem lt_pair (k : Nat) : PySem.W.dataLt (.tuple [.int 1, .int (k : Nat)]) (.tuple [.int 1, .int 0]) = false := by
  have e : ∀ z : Int, PySem.W.keyToks (.tuple [.int 1, .int z]) = [.inl 1, .inl 1, .inl 1] ++ [.inl z, .inl 0] := fun z => by
    simp [PySem.W.keyToks, PySem.W.keyToksAll]
  unfold PySem.W.dataLt
  rw [e, e, PySem.W.lex_pre]
  by_cases q : k = 0
  · subst q
    have := PySem.W.lex_pre [.inl 0, .inl 0] [] []
    rw [List.append_nil] at this
    exact this.trans rfl
  · rw [PySem.W.lex_atom (by simp; omega)]
    have := PySem.W.dataLt_int (k : Nat) 0
    unfold PySem.W.dataLt at this
    simp only [PySem.W.keyToks] at this
    rw [this]
    exact decide_eq_false (by omega)
theorem minD_first : ∀ (xs : List PyData) (x : PyData), (∀ y ∈ xs, PySem.W.dataLt y x = false) → PySem.W.minD x xs = x
  | [], x, _ => rfl
  | y :: xs, x, h => by
    have ih := minD_first xs x fun z hz => h z (by simp [hz])
    unfold PySem.W.minD at ih ⊢
    rw [List.foldl_cons, h y (by simp)]
    exact ih
theorem nr_a : nrL [98] A400 = .tuple [.int 1, .int 0] :: (List.range 399).map fun a => .tuple [.int 1, .int ((a + 1 : Nat) : Int)] := by
  have e : ∀ a, a < 400 → (unL [98] ((A400.drop a).take 1)).length = 1 := fun a ha => by
    have : (A400.drop a).take 1 = [97] := by
      unfold A400
      rw [List.drop_replicate, List.take_replicate]
      have : min 1 (400 - a) = 1 := by omega
      rw [this]
      rfl
    rw [this]
    rfl
  have l2 : A400.length + 1 - [98].length = 399 + 1 := by
    have : A400.length = 400 := List.length_replicate ..
    rw [this]; rfl
  unfold nrL
  rw [l2, List.range_succ_eq_map, List.map_cons, List.map_map]
  refine congr (congrArg List.cons ?_) ?_
  · show PyData.tuple [.int ((unL [98] ((A400.drop 0).take 1)).length : Nat), .int ((0 : Nat) : Int)] = _
    rw [e 0 (by omega)]
    rfl
  · apply List.map_congr_left
    intro a ha
    have ha := List.mem_range.mp ha
    show PyData.tuple [.int ((unL [98] ((A400.drop (a + 1)).take 1)).length : Nat), .int ((a + 1 : Nat) : Int)] = _
    rw [e (a + 1) (by omega)]
    rfl
theorem nz_a : Nz [98] A400 (.tuple [.int 1, .int 0]) := by
  obtain ⟨z, hz⟩ := nz_ex [98] A400
  rcases hz with ⟨a, _, _⟩ | ⟨b, _, _⟩
  · rw [nr_a] at a
    cases a
  · refine .inr ⟨b, by rw [nr_a]; simp, ?_⟩
    have sh : SeqAt.shaped (.list (nrL [98] A400)) = true := sh_pairs _ _ _
    have al : alikeB (nrL [98] A400) = true := alike_pairs _ _ _
    rw [nr_a] at sh al ⊢
    have md := minD_first ((List.range 399).map fun a => PyData.tuple [.int 1, .int ((a + 1 : Nat) : Int)]) (.tuple [.int 1, .int 0]) (fun y hy => by
      obtain ⟨a, _, rfl⟩ := List.mem_map.mp hy
      exact lt_pair (a + 1))
    generalize (List.range 399).map (fun a => PyData.tuple [.int 1, .int ((a + 1 : Nat) : Int)]) = XS at *
    unfold minR minQ
    have m1 : minP [.list (.tuple [.int 1, .int 0] :: XS)] = none := rfl
    rw [m1, Option.none_or]
    show ((if _ && _ then some (PySem.W.minD _ _) else none)).or _ = _
    rw [sh, al, md]
    rfl
section
variable {h : Hd} {ns : List Int}
theorem lw_0 : (sIf (tOrD (dTest (dBin neP (dCall F_nearly_at (aCons (dBin mulP (eC (.t (.str (Str.ofString "a")))) (eC (.t (.int 400)))) (aCons (dBin mulP (eC (.t (.str (Str.ofString "a")))) (eC (.t (.int 60)))) (aCons (eC (.t (.int 0))) aNil)))) (dCW tupP (aCons (dLc false (iRg2 (aCons (eC (.t (.int 60))) (aCons (eC (.t (.int 401))) aNil))) (gN 3) tYesD (dTup (aCons (eVar 3) (aCons (eC (.t (.int 0))) aNil))) [3]) aNil)))) (tOrD (dTest (dBin neP (dCall F_nearest_in (aCons (dBin mulP (eC (.t (.str (Str.ofString "a")))) (eC (.t (.int 400)))) (aCons (eC (.t (.str (Str.ofString "b")))) aNil))) (dTup (aCons (eC (.t (.int 1))) (aCons (eC (.t (.int 0))) aNil))))) (dTest (dBin neP (dCall F_nearly_at (aCons (dBin mulP (eC (.t (.str (Str.ofString "a")))) (eC (.t (.int 5)))) (aCons (dBin mulP (eC (.t (.str (Str.ofString "b")))) (eC (.t (.int 60)))) (aCons (eC (.t (.int 59))) aNil)))) (dTup aNil))))) (sRet (eC (.t (.bool false)))) sNext) [some (.s ns), none, none, none, none] h = some (.nx, [some (.s ns), none, none, none, none], h) := by
  obtain ⟨_, _, la, lb⟩ := lits
  have m1 : mulP (.str (tx [97])) (.int 400) = some (.str (tx A400)) := rep_c 97 400 (by omega)
  have m2 : mulP (.str (tx [97])) (.int 60) = some (.str (tx A60)) := rep_c 97 60 (by omega)
  have m3 : mulP (.str (tx [97])) (.int 5) = some (.str (tx (List.replicate 5 97))) := rep_c 97 5 (by omega)
  have m4 : mulP (.str (tx [98])) (.int 60) = some (.str (tx (List.replicate 60 98))) := rep_c 98 60 (by omega)
  have rA : Rw A400 := rep_rw (by decide) (by omega)
  have rB : Rw A60 := rep_rw (by decide) (by omega)
  have c1 : F_nearly_at [.t (.str (tx A400)), .t (.str (tx A60)), .t (.int 0)] h = _ := @e_nearly_at A60 A400 h 0 rA rB (by omega) (by show (List.replicate 60 97).length ≤ 60; simp)
  rw [near_a] at c1
  have c2 := @e_nearest_in [98] A400 h _ ⟨by decide, by decide⟩ rA nz_a
  have c3 : F_nearly_at [.t (.str (tx (List.replicate 5 97))), .t (.str (tx (List.replicate 60 98))), .t (.int 59)] h = _ := @e_nearly_at (List.replicate 60 98) (List.replicate 5 97) h 59 (rep_rw (by decide) (by omega)) (rep_rw (by decide) (by omega)) (by omega) (by simp)
  rw [near_b] at c3
  have lc : (dLc false (iRg2 (aCons (eC (.t (.int 60))) (aCons (eC (.t (.int 401))) aNil))) (gN 3) tYesD (dTup (aCons (eVar 3) (aCons (eC (.t (.int 0))) aNil))) [3]) [some (.s ns), none, none, none, none] h = some (.ok (.t (.list ((List.range 341).map fun i => .tuple [.int ((60 + i : Nat) : Int), .int 0]))) h) := by
    refine lc_rngM (lo := 60) (n := 341) (fun i => .tuple [.int ((60 + i : Nat) : Int), .int 0]) ?_ (by simp) ?_
    · simp -implicitDefEqProofs [show DL.inR 60 = true from rfl, show DL.inR 401 = true from rfl]
    · intro i hi acc
      have e : (60 : Int) + (i : Int) = ((60 + i : Nat) : Int) := by omega
      rw [e]
      generalize (60 + i) = j
      simp -implicitDefEqProofs
  have ok := okR_sh (okE2_tup (B := 20) (xs := (List.range 341).map fun i => .tuple [.int ((60 + i : Nat) : Int), .int ((0 : Nat) : Int)]) (fun d hd => by
    obtain ⟨i, hi, rfl⟩ := List.mem_map.mp hd
    have := List.mem_range.mp hi
    exact okE2_pair (by omega) (by omega)) (by simp))
  have ok' : SeqAt.shaped (.tuple ((List.range 341).map fun i => .tuple [.int ((60 + i : Nat) : Int), .int 0])) = true := ok
  generalize (List.range 341).map (fun i => PyData.tuple [.int ((60 + i : Nat) : Int), .int 0]) = NL at *
  have s2 : SeqAt.shaped (.tuple [.int 1, .int 0]) = true := by decide
  have s3 : SeqAt.shaped (.tuple []) = true := by decide
  generalize List.replicate 5 97 = A5 at *
  generalize List.replicate 60 98 = B60 at *
  generalize A400 = W4 at *
  generalize A60 = W6 at *
  rw [la, lb]
  have x1 : ∀ hh, dBin mulP (eC (.t (.str (tx [97])))) (eC (.t (.int 400))) [some (.s ns), none, none, none, none] hh = some (.ok (.t (.str (tx W4))) hh) := fun hh => bin_at (h1 := hh) (a := .str (tx [97])) (b := .int 400) (by simp -implicitDefEqProofs) (by simp -implicitDefEqProofs) m1
  have x2 : ∀ hh, dBin mulP (eC (.t (.str (tx [97])))) (eC (.t (.int 60))) [some (.s ns), none, none, none, none] hh = some (.ok (.t (.str (tx W6))) hh) := fun hh => bin_at (h1 := hh) (a := .str (tx [97])) (b := .int 60) (by simp -implicitDefEqProofs) (by simp -implicitDefEqProofs) m2
  have x3 : ∀ hh, dBin mulP (eC (.t (.str (tx [97])))) (eC (.t (.int 5))) [some (.s ns), none, none, none, none] hh = some (.ok (.t (.str (tx A5))) hh) := fun hh => bin_at (h1 := hh) (a := .str (tx [97])) (b := .int 5) (by simp -implicitDefEqProofs) (by simp -implicitDefEqProofs) m3
  have x4 : ∀ hh, dBin mulP (eC (.t (.str (tx [98])))) (eC (.t (.int 60))) [some (.s ns), none, none, none, none] hh = some (.ok (.t (.str (tx B60))) hh) := fun hh => bin_at (h1 := hh) (a := .str (tx [98])) (b := .int 60) (by simp -implicitDefEqProofs) (by simp -implicitDefEqProofs) m4
  generalize dBin mulP (eC (.t (.str (tx [97])))) (eC (.t (.int 400))) = X1 at *
  generalize dBin mulP (eC (.t (.str (tx [97])))) (eC (.t (.int 60))) = X2 at *
  generalize dBin mulP (eC (.t (.str (tx [97])))) (eC (.t (.int 5))) = X3 at *
  generalize dBin mulP (eC (.t (.str (tx [98])))) (eC (.t (.int 60))) = X4 at *
  generalize F_nearly_at = FN at *
  generalize F_nearest_in = FR at *
  generalize dLc false _ _ _ _ _ = LC at *
  refine if_or (test_at (bin_at (h1 := h) (a := .tuple NL) (b := .tuple NL) ?_ (tup_at lc) (ne_selfS ok'))) (or_at (test_at (bin_at (h1 := h) (a := .tuple [.int 1, .int 0]) (b := .tuple [.int 1, .int 0]) ?_ ?_ (ne_selfS s2))) (test_at (bin_at (h1 := h) (a := .tuple []) (b := .tuple []) ?_ ?_ (ne_selfS s3))))
  · simp -implicitDefEqProofs [x1, x2, c1]
  · simp -implicitDefEqProofs [x1, c2]
  · simp -implicitDefEqProofs
  · simp -implicitDefEqProofs [x3, x4, c3]
  · simp -implicitDefEqProofs
theorem turn_ok {hh : Hd} {i : Nat} {o2 : Option D} (hi : i ≤ 10) : ∃ S2 h2, (sSeq (sSet 2 (dCall F__law_pot (aCons (eVar 0) (aCons (eVar 1) aNil)))) (sIf (tNotD (dTru (dCW allP (aCons (dLc false (iRg1 (aCons (eC (.t (.int 6))) aNil)) (gN 4) tYesD (dCall F__law_right (aCons (eVar 2) aNil)) [4]) aNil)))) (sRet (eC (.t (.bool false)))) sNext)) [some (.s ns), some (.t (.int (i : Nat))), o2, none, none] hh = some (.nx, [some (.s ns), some (.t (.int (i : Nat))), S2, none, none], h2) := by
  obtain ⟨x, ep, gx⟩ := pot_ok ns i hi hh
  obtain ⟨ys, h', e2, l2, g2, _, k2⟩ := lc_inv (S := [some (.s ns), some (.t (.int (i : Nat))), some (.c hh.length), none, none]) (h := hh ++ [x]) (h' := hh ++ [x]) (m := iRg1 (aCons (eC (.t (.int 6))) aNil)) (f := gN 4) (t := tYesD) (e := dCall F__law_right (aCons (eVar 2) aNil)) (own := [4]) (xs := rngD 0 6)
    (fun j h1 => ∃ y, h1 = (hh ++ [x]).set hh.length y ∧ Gp (44 * j) y) (fun d => d = .bool true) (by simp -implicitDefEqProofs [show DL.inR 6 = true from rfl]) (by simp [rngD]) ⟨x, by rw [set_end], gx⟩ (by
      intro d hd j h1 acc hj hl1 ⟨z, ez, gz⟩
      have hj3 : j < 6 := by simpa [rngD] using hj
      have hx0 : (hh ++ [x])[hh.length]? = some x := by simp
      have hz : (h1 ++ [Cell.lst acc])[hh.length]? = some z := by
        rw [List.getElem?_append_left (by rw [ez]; simp), ez]
        exact set_at' hx0
      obtain ⟨y', e4, gy'⟩ := right_ok hz gz (by omega)
      have hs : (h1 ++ [Cell.lst acc]).set hh.length y' = (hh ++ [x]).set hh.length y' ++ [Cell.lst acc] := by
        rw [List.set_append_left _ _ (by rw [ez]; simp), ez, List.set_set]
      rw [hs] at e4
      refine ⟨.bool true, (hh ++ [x]).set hh.length y', ?_, rfl, ⟨y', rfl, gy'.mono (by omega)⟩, by simp⟩
      simp -implicitDefEqProofs [e4])
  have ta := trues g2
  refine ⟨some (.c hh.length), h', ?_⟩
  simp -implicitDefEqProofs [ep, e2, ta]
theorem lw_1 : ∃ S2 h2, (sFor (iAny (dCall F__law_cells (aCons (eVar 0) (aCons (eC (.t (.int 3))) aNil)))) (gN 1) (sSeq (sSet 2 (dCall F__law_pot (aCons (eVar 0) (aCons (eVar 1) aNil)))) (sIf (tNotD (dTru (dCW allP (aCons (dLc false (iRg1 (aCons (eC (.t (.int 6))) aNil)) (gN 4) tYesD (dCall F__law_right (aCons (eVar 2) aNil)) [4]) aNil)))) (sRet (eC (.t (.bool false)))) sNext))) [some (.s ns), none, none, none, none] h = some (.nx, S2, h2) := by
  obtain ⟨m, hm, ec⟩ := cells_ok ns h
  obtain ⟨S2, h2, e, _⟩ := forL_inv (f := gN 1) (b := (sSeq (sSet 2 (dCall F__law_pot (aCons (eVar 0) (aCons (eVar 1) aNil)))) (sIf (tNotD (dTru (dCW allP (aCons (dLc false (iRg1 (aCons (eC (.t (.int 6))) aNil)) (gN 4) tYesD (dCall F__law_right (aCons (eVar 2) aNil)) [4]) aNil)))) (sRet (eC (.t (.bool false)))) sNext))) (fun _ S _ => ∃ o2 o3, S = [some (.s ns), o2, o3, none, none]) (rngD 0 m) 0 [some (.s ns), none, none, none, none] h ⟨none, none, rfl⟩ (fun j x S hh hx ⟨o2, o3, hS⟩ => by
    subst hS
    obtain ⟨hj, rfl⟩ := rng_at hx
    obtain ⟨o, h2, e⟩ := @turn_ok ns hh j o3 (by omega)
    exact ⟨[some (.s ns), some (.t (.int (j : Nat))), o3, none, none], _, h2, by simp, e, _, _, rfl⟩)
  refine ⟨S2, h2, ?_⟩
  simp -implicitDefEqProofs [iAny, ec, e]
end
theorem law_true (ns : List Int) (h : ns.length ≤ 63) : F_law [.s ns] [] = some (.ok (.t (.bool true)) []) := by
  obtain ⟨S2, h3, e3⟩ := @lw_1 [] ns
  have e : g_law [some (.s ns), none, none, none, none] [] = some (.rt (.t (.bool true)), S2, h3) := by
    unfold g_law
    rw [sSeq_nx lw_0, sSeq_nx e3]
    simp -implicitDefEqProofs
  simp -implicitDefEqProofs [F_law, e]
end Lw
set_option Elab.async false
set_option linter.all false
set_option maxRecDepth 100000
set_option maxHeartbeats 0
namespace Lw
open PySem PySem.Spec L2 DL
open PyProof.Rows hiding St
theorem run (w : World) : HandSHeadRun.RunEq R (PySem.W.view R.prog [32]) hk ob 20000 loose w := by
  intro os
  kernel_rfl
theorem fin {P : Program} {w : World} {K : PySem.W.Frag} {h : Heap} {mg : Str → Option Value} {f : Addr} (X : K.In h) (G : h.Ns mainGlobals mg) (hfa : mg ("law" : Str) = some (.ref f)) (c : He.SaysD fa fn K) :
    ∃ (fd : FuncData) (F : List D → M D), (∀ (s : Shared) (u : Value), BindsTo s fd ⟨[u], []⟩ [(Str.ofString "script", u)]) ∧ (∀ ns : List Int, ns.length ≤ 63 → F [.s ns] [] = some (.ok (.t (.bool true)) [])) ∧ ∀ base : Heap, K.In base → base.Ns mainGlobals mg → FnG P w K mg base 7 f fd [Str.ofString "script"] F := by
  obtain ⟨fd0, F0⟩ := c.def_ 0 (d := dd "is_integer" 9) rfl
  obtain ⟨fdf, T⟩ := Tx.of X G c fd0
  have e := hfa.symm.trans (m_law T)
  cases e
  have b := FunD.bindsA (ps := [Str.ofString "script"]) (T.d 19 (dd "law" 32) rfl) fun _ _ _ _ _ _ us hl => match us, hl with | [_], _ => rfl
  exact ⟨_, F_law, fun s u => b s [u] rfl, law_true, fun base _ _ => (ok_law T).mono (by decide)⟩
end Lw
open PySem PySem.W PySem.Calls PyProof.Rows
theorem PySem.Challenge.cw_everyrowhasit_k65_whole_rows_nearly_in_o_holds : PySem.Challenge.rw_everyrowhasit_k65_whole_rows_nearly_in_o.Holds := by
  w_on; o_law
  refine HandSHeadRun.head_any (r := OpenLaw.row PySem.Challenge.rw_everyrowhasit_k65_whole_rows_nearly_in_o) (q := view (OpenLaw.row PySem.Challenge.rw_everyrowhasit_k65_whole_rows_nearly_in_o).prog [32]) (H := Lw.hk) (ob := Lw.ob) (M := 20000) (loose := Lw.loose) (d := HandSHeadRun.topDef (OpenLaw.row PySem.Challenge.rw_everyrowhasit_k65_whole_rows_nearly_in_o).prog 32) (kwd := []) Lw.ob_eq
    (by kernel_rfl) (fun s => by kernel_rfl) Lw.run (by kernel_rfl) (by kernel_rfl) (by kernel_rfl) (by rfl) (by first | assumption | decide +kernel) (by decide +kernel) ⟨rfl, rfl, rfl, rfl, rfl, by decide +kernel⟩ ?hw ?hc
  case hw => w_witness2
  case hc =>
    refine DL.walk_g (l := PySem.Challenge.rw_everyrowhasit_k65_whole_rows_nearly_in_o) (n := 63) (k := 7) (x := PySem.Str.ofString "script") rfl (by decide) (by kernel_rfl) ⟨rfl, by decide, by decide⟩ ?T
    intro w mg fa h Y G hmg0
    obtain ⟨K, KX, c⟩ := Y
    have hmg : mg ("law" : PySem.Str) = some (.ref fa) := by
      have e : (HandSHeadRun.topDef (OpenLaw.row PySem.Challenge.rw_everyrowhasit_k65_whole_rows_nearly_in_o).prog 32).name = ("law" : PySem.Str) := by kernel_rfl
      rw [← e]
      exact hmg0
    obtain ⟨fd, F, h1, h2, h3⟩ := Lw.fin (P := (PySem.Challenge.rw_everyrowhasit_k65_whole_rows_nearly_in_o).prog) (w := w) KX G hmg c
    exact ⟨K, fd, F, KX, h1, h2, h3⟩
