import PyProof.Rows.All
import Wide.All
import OpenK.AllK
import Wide.FinOn
import HandS.ForMost
import HandS.Wide
import HandS.IsInst
import HandS.Conv
import HandS.TupAny
import HandS.Deep
import HandS.Flow
import HandS.SortKw
import KE.DatumOrd
import KE.KTupSum
import HandS.RevTup
import PySem.Challenge.RW_turnwarrant_k51_whole_tableaux_and_their
import HandS.ForList
set_option Elab.async false
set_option maxRecDepth 100000
set_option linter.unusedVariables false
/-! Ly: readings over plain data. D: a value as data; Rp: a value stands for data; Sl: the slots of a frame as data; Dn, EL, ET, EA: what an expression gives; SV: what a statement does. -/
namespace Ly
open PySem L2

inductive D where
  | non | bl (b : Bool) | int (i : Int) | str (x : Str) | raw (v : V) | tup (xs : List D)

mutual
inductive Rp (H : Hp) : V → D → Prop
  | non : Rp H .non .non
  | bl (b : Bool) : Rp H (.bl b) (.bl b)
  | int (i : Int) : Rp H (.int i) (.int i)
  | str (x : Str) : Rp H (.str x) (.str x)
  | raw (v : V) : Rp H v (.raw v)
  | tup {a : Addr} {xs : List V} {ds : List D} : H a = some (.tup xs) → RpL H xs ds → Rp H (.ref a) (.tup ds)
inductive RpL (H : Hp) : List V → List D → Prop
  | nil : RpL H [] []
  | cons {v : V} {d : D} {xs : List V} {ds : List D} : Rp H v d → RpL H xs ds → RpL H (v :: xs) (d :: ds)
end
/-- the tuples stay -/
def Tk (H H' : Hp) : Prop := ∀ a xs, H a = some (.tup xs) → H' a = some (.tup xs)
mutual
theorem Rp.mono {H H' : Hp} (k : Tk H H') : ∀ (d : D) (v : V), Rp H v d → Rp H' v d
  | .non, _, h => by cases h; exact .non
  | .bl _, _, h => by cases h; exact .bl _
  | .int _, _, h => by cases h; exact .int _
  | .str _, _, h => by cases h; exact .str _
  | .raw _, _, h => by cases h; exact .raw _
  | .tup ds, _, h => by
    cases h with
    | tup e r => exact .tup (k _ _ e) (RpL.mono k ds _ r)
theorem RpL.mono {H H' : Hp} (k : Tk H H') : ∀ (ds : List D) (xs : List V), RpL H xs ds → RpL H' xs ds
  | [], _, h => by cases h; exact .nil
  | d :: ds, _, h => by
    cases h with
    | cons a b => exact .cons (Rp.mono k d _ a) (RpL.mono k ds _ b)
end
theorem RpL.length {H : Hp} : ∀ {xs : List V} {ds : List D}, RpL H xs ds → xs.length = ds.length
  | _, [], h => by cases h; rfl
  | _, _ :: _, h => by cases h with | cons a b => simp [RpL.length b]
theorem RpL.get {H : Hp} : ∀ {xs : List V} {ds : List D} {i : Nat} {d : D}, RpL H xs ds → ds[i]? = some d → ∃ v, xs[i]? = some v ∧ Rp H v d
  | _, [], _, _, _, e => by simp at e
  | _, d :: ds, 0, _, h, e => by
    cases h with | cons a b => simp at e; subst e; exact ⟨_, rfl, a⟩
  | _, d :: ds, i + 1, _, h, e => by
    cases h with | cons a b => exact RpL.get (i := i) b (by simpa using e)
theorem RpL.get' {H : Hp} : ∀ {xs : List V} {ds : List D} {i : Nat} {v : V}, RpL H xs ds → xs[i]? = some v → ∃ d, ds[i]? = some d ∧ Rp H v d
  | _, [], _, _, h, e => by cases h; simp at e
  | _, d :: ds, 0, _, h, e => by
    cases h with | cons a b => simp at e; subst e; exact ⟨_, rfl, a⟩
  | _, d :: ds, i + 1, _, h, e => by
    cases h with | cons a b => exact RpL.get' (i := i) b (by simpa using e)
theorem RpL.append {H : Hp} : ∀ {xs ys : List V} {ds es : List D}, RpL H xs ds → RpL H ys es → RpL H (xs ++ ys) (ds ++ es)
  | _, _, [], _, h, g => by cases h; exact g
  | _, _, _ :: _, _, h, g => by cases h with | cons a b => exact .cons a (RpL.append b g)
theorem RpL.take {H : Hp} : ∀ {xs : List V} {ds : List D} (n : Nat), RpL H xs ds → RpL H (xs.take n) (ds.take n)
  | _, _, 0, _ => .nil
  | _, [], n + 1, h => by cases h; exact .nil
  | _, _ :: _, n + 1, h => by cases h with | cons a b => exact .cons a (RpL.take n b)
theorem RpL.drop {H : Hp} : ∀ {xs : List V} {ds : List D} (n : Nat), RpL H xs ds → RpL H (xs.drop n) (ds.drop n)
  | _, _, 0, h => h
  | _, [], n + 1, h => by cases h; exact .nil
  | _, _ :: _, n + 1, h => by cases h with | cons a b => exact RpL.drop n b
theorem RpL.set {H : Hp} {v : V} {d : D} (r : Rp H v d) : ∀ {xs : List V} {ds : List D} (n : Nat), RpL H xs ds → RpL H (xs.set n v) (ds.set n d)
  | _, [], n, h => by cases h; exact .nil
  | _, _ :: _, 0, h => by cases h with | cons a b => exact .cons r b
  | _, _ :: _, n + 1, h => by cases h with | cons a b => exact .cons a (RpL.set r n b)
theorem RpL.eraseIdx {H : Hp} : ∀ {xs : List V} {ds : List D} (n : Nat), RpL H xs ds → RpL H (xs.eraseIdx n) (ds.eraseIdx n)
  | _, [], n, h => by cases h; exact .nil
  | _, _ :: _, 0, h => by cases h with | cons a b => exact b
  | _, _ :: _, n + 1, h => by cases h with | cons a b => exact .cons a (RpL.eraseIdx n b)
theorem RpL.dropLast {H : Hp} {xs : List V} {ds : List D} (h : RpL H xs ds) : RpL H xs.dropLast ds.dropLast := by
  rw [List.dropLast_eq_take, List.dropLast_eq_take, h.length]
  exact h.take _
theorem RpL.reverse {H : Hp} : ∀ {xs : List V} {ds : List D}, RpL H xs ds → RpL H xs.reverse ds.reverse
  | _, [], h => by cases h; exact .nil
  | _, _ :: _, h => by
    cases h with
    | cons a b =>
      rw [List.reverse_cons, List.reverse_cons]
      exact (RpL.reverse b).append (.cons a .nil)
theorem RpL.snoc {H : Hp} {xs : List V} {ds : List D} {v : V} {d : D} (h : RpL H xs ds) (r : Rp H v d) : RpL H (xs ++ [v]) (ds ++ [d]) := h.append (.cons r .nil)
theorem RpL.ints {H : Hp} : ∀ (ns : List Int), RpL H (ns.map V.int) (ns.map D.int)
  | [] => .nil
  | _ :: r => .cons (.int _) (RpL.ints r)
theorem RpL.of_ints {H : Hp} : ∀ {ns : List Int} {xs : List V}, RpL H xs (ns.map D.int) → xs = ns.map V.int
  | [], _, h => by cases h; rfl
  | _ :: r, _, h => by
    cases h with
    | cons a b => cases a; rw [RpL.of_ints b]; rfl
theorem RpL.atI {H : Hp} {xs : List V} {ds : List D} {i : Int} {d : D} (h : RpL H xs ds) (e : atI ds i = some d) : ∃ v, atI xs i = some v ∧ Rp H v d := by
  unfold L2.atI at e ⊢
  rw [h.length]
  cases q : ixN ds.length i with
  | none => rw [q] at e; cases e
  | some j => rw [q] at e; exact h.get e

/-! ### the world: what may change behind the readings -/
structure Wd where
  M : Addr → Prop
  I : Hp → Prop
  there : ∀ H a, I H → M a → H a ≠ none
  notup : ∀ H a, I H → M a → ∀ xs, H a ≠ some (.tup xs)
  stable : ∀ H H', (∀ a, M a → H' a = H a) → Tk H H' → I H → I H'
/-- nothing changes -/
def W0 : Wd := ⟨fun _ => False, fun _ => True, fun _ _ _ h => h.elim, fun _ _ _ h => h.elim, fun _ _ _ _ _ => trivial⟩
def Xt (W : Wd) (H H' : Hp) : Prop := (∀ a o, H a = some o → ¬ W.M a → H' a = some o) ∧ W.I H'
theorem Xt.refl {W : Wd} {H : Hp} (i : W.I H) : Xt W H H := ⟨fun _ _ h _ => h, i⟩
theorem Xt.trans {W : Wd} {H H1 H2 : Hp} (a : Xt W H H1) (b : Xt W H1 H2) : Xt W H H2 := ⟨fun c o h m => b.1 c o (a.1 c o h m) m, b.2⟩
theorem Xt.tk {W : Wd} {H H' : Hp} (i : W.I H) (h : Xt W H H') : Tk H H' := fun a xs e => h.1 a _ e fun m => W.notup H a i m xs e
theorem Xt.same {H H' : Hp} (h : Same H H') : Xt W0 H H' := ⟨fun a o e _ => h a o e, trivial⟩
theorem Xt.of0 {H H' : Hp} (h : Xt W0 H H') : Same H H' := fun a o e => h.1 a o e fun m => m
theorem Xt.free {W : Wd} {H H' : Hp} (i : W.I H) (h : Xt W H H') {p : Addr} (e : H' p = none) : H p = none := by
  cases q : H p with
  | none => rfl
  | some o =>
    have m : ¬ W.M p := fun m => W.there H' p h.2 m e
    rw [h.1 p o q m] at e
    cases e
/-- all that stood stands -/
theorem Xt.ofSame {W : Wd} {H H' : Hp} (i : W.I H) (h : Same H H') : Xt W H H' := by
  refine ⟨fun a o e _ => h a o e, W.stable H H' (fun a m => ?_) (fun a xs e => h a _ e) i⟩
  cases q : H a with
  | none => exact absurd q (W.there H a i m)
  | some o => exact h a o q
theorem Xt.new {W : Wd} {H : Hp} {p : Addr} {o : HO} (i : W.I H) (h : H p = none) : Xt W H (upd H p o) := .ofSame i fun a u e => by
  rw [upd_ne (ne_of_none e h)]
  exact e
/-- an own object is written -/
theorem Xt.put {W : Wd} {B H : Hp} {p : Addr} {o : HO} (i : W.I H) (x : Xt W B H) (hb : B p = none) (hm : ¬ W.M p) (ht : ∀ xs, H p ≠ some (.tup xs)) : Xt W B (upd H p o) := by
  refine ⟨fun a u e m => ?_, W.stable H _ (fun a m => upd_ne fun z => hm (z ▸ m)) (fun a xs e => ?_) i⟩
  · rw [upd_ne (ne_of_none e hb)]
    exact x.1 a u e m
  · rw [upd_ne fun z => by subst z; exact ht xs e]
    exact e
theorem notM {W : Wd} {H : Hp} {p : Addr} (i : W.I H) (h : H p = none) : ¬ W.M p := fun m => W.there H p i m h

/-! ### slots -/
inductive AV where
  | no | d (x : D) | l (ds : List D) | r (v : V)

structure Sl (W : Wd) (B : Hp) (Γ : List AV) (σ : L2.St) (H : Hp) : Prop where
  x : Xt W B H
  len : σ.length = Γ.length
  da : ∀ (i : Nat) (x : D), Γ[i]? = some (.d x) → ∃ v, σ[i]? = some (some v) ∧ Rp H v x
  li : ∀ (i : Nat) (ds : List D), Γ[i]? = some (.l ds) → ∃ (p : Addr) (xs : List V), σ[i]? = some (some (.ref p)) ∧ H p = some (.lst xs) ∧ RpL H xs ds ∧ B p = none ∧ ¬ W.M p
  ra : ∀ (i : Nat) (v : V), Γ[i]? = some (.r v) → σ[i]? = some (some v)
  ne : ∀ (i j : Nat) (ds es : List D) (p : Addr), i ≠ j → Γ[i]? = some (.l ds) → Γ[j]? = some (.l es) → σ[i]? = some (some (.ref p)) → σ[j]? ≠ some (some (.ref p))
section
variable {W : Wd} {B H H' : Hp} {Γ : List AV} {σ : L2.St}
theorem Sl.i (s : Sl W B Γ σ H) : W.I H := s.x.2
theorem Sl.mono (s : Sl W B Γ σ H) (k : Xt W H H') : Sl W B Γ σ H' where
  x := s.x.trans k
  len := s.len
  da := fun i x e => let ⟨v, a, b⟩ := s.da i x e; ⟨v, a, b.mono (k.tk s.i)⟩
  li := fun i ds e => let ⟨p, xs, a, b, c, d, m⟩ := s.li i ds e; ⟨p, xs, a, k.1 _ _ b m, c.mono (k.tk s.i), d, m⟩
  ra := s.ra
  ne := s.ne
theorem set_get {α : Type} {l : List α} {i j : Nat} {x y : α} (h : (l.set i x)[j]? = some y) : (i = j ∧ y = x) ∨ (i ≠ j ∧ l[j]? = some y) := by
  rw [List.getElem?_set] at h
  split at h
  · rename_i e
    subst e
    split at h
    · cases h; exact .inl ⟨rfl, rfl⟩
    · cases h
  · rename_i e
    exact .inr ⟨e, h⟩
theorem lt_of_get {α : Type} {l : List α} {i : Nat} {x : α} (h : l[i]? = some x) : i < l.length := (List.getElem?_eq_some_iff.mp h).1
theorem set_len_get {α β : Type} {l : List α} {m : List β} {i : Nat} {x : α} {y : β} {z : α} (e : m.length = l.length) (h : (l.set i x)[i]? = some z) : (m.set i y)[i]? = some y := by
  have := lt_of_get h
  rw [List.length_set] at this
  exact List.getElem?_set_self (by omega)
theorem Sl.setd (s : Sl W B Γ σ H) {v : V} {x : D} (r : Rp H v x) (i : Nat) : Sl W B (Γ.set i (.d x)) (σ.set i (some v)) H where
  x := s.x
  len := by simp [s.len]
  da := fun j y e => by
    rcases set_get e with ⟨rfl, z⟩ | ⟨n, z⟩
    · cases z; exact ⟨v, set_len_get s.len e, r⟩
    · obtain ⟨u, a, b⟩ := s.da j y z
      exact ⟨u, by rw [List.getElem?_set_ne n]; exact a, b⟩
  li := fun j ds e => by
    rcases set_get e with ⟨rfl, z⟩ | ⟨n, z⟩
    · cases z
    · obtain ⟨p, xs, a, b⟩ := s.li j ds z
      exact ⟨p, xs, by rw [List.getElem?_set_ne n]; exact a, b⟩
  ra := fun j y e => by
    rcases set_get e with ⟨rfl, z⟩ | ⟨n, z⟩
    · cases z
    · rw [List.getElem?_set_ne n]; exact s.ra j y z
  ne := fun j k ds es p njk e1 e2 e3 => by
    rcases set_get e1 with ⟨rfl, z⟩ | ⟨n1, z1⟩
    · cases z
    rcases set_get e2 with ⟨rfl, z⟩ | ⟨n2, z2⟩
    · cases z
    rw [List.getElem?_set_ne n1] at e3
    rw [List.getElem?_set_ne n2]
    exact s.ne j k ds es p njk z1 z2 e3
theorem Sl.setr (s : Sl W B Γ σ H) (v : V) (i : Nat) : Sl W B (Γ.set i (.r v)) (σ.set i (some v)) H where
  x := s.x
  len := by simp [s.len]
  da := fun j y e => by
    rcases set_get e with ⟨rfl, z⟩ | ⟨n, z⟩
    · cases z
    · obtain ⟨u, a, b⟩ := s.da j y z
      exact ⟨u, by rw [List.getElem?_set_ne n]; exact a, b⟩
  li := fun j ds e => by
    rcases set_get e with ⟨rfl, z⟩ | ⟨n, z⟩
    · cases z
    · obtain ⟨p, xs, a, b⟩ := s.li j ds z
      exact ⟨p, xs, by rw [List.getElem?_set_ne n]; exact a, b⟩
  ra := fun j y e => by
    rcases set_get e with ⟨rfl, z⟩ | ⟨n, z⟩
    · cases z; exact set_len_get s.len e
    · rw [List.getElem?_set_ne n]; exact s.ra j y z
  ne := fun j k ds es p njk e1 e2 e3 => by
    rcases set_get e1 with ⟨rfl, z⟩ | ⟨n1, z1⟩
    · cases z
    rcases set_get e2 with ⟨rfl, z⟩ | ⟨n2, z2⟩
    · cases z
    rw [List.getElem?_set_ne n1] at e3
    rw [List.getElem?_set_ne n2]
    exact s.ne j k ds es p njk z1 z2 e3
/-- a slot forgotten -/
theorem Sl.setn (s : Sl W B Γ σ H) (o : Option V) (i : Nat) : Sl W B (Γ.set i .no) (σ.set i o) H where
  x := s.x
  len := by simp [s.len]
  da := fun j y e => by
    rcases set_get e with ⟨rfl, z⟩ | ⟨n, z⟩
    · cases z
    · obtain ⟨u, a, b⟩ := s.da j y z
      exact ⟨u, by rw [List.getElem?_set_ne n]; exact a, b⟩
  li := fun j ds e => by
    rcases set_get e with ⟨rfl, z⟩ | ⟨n, z⟩
    · cases z
    · obtain ⟨p, xs, a, b⟩ := s.li j ds z
      exact ⟨p, xs, by rw [List.getElem?_set_ne n]; exact a, b⟩
  ra := fun j y e => by
    rcases set_get e with ⟨rfl, z⟩ | ⟨n, z⟩
    · cases z
    · rw [List.getElem?_set_ne n]; exact s.ra j y z
  ne := fun j k ds es p njk e1 e2 e3 => by
    rcases set_get e1 with ⟨rfl, z⟩ | ⟨n1, z1⟩
    · cases z
    rcases set_get e2 with ⟨rfl, z⟩ | ⟨n2, z2⟩
    · cases z
    rw [List.getElem?_set_ne n1] at e3
    rw [List.getElem?_set_ne n2]
    exact s.ne j k ds es p njk z1 z2 e3
/-- a list that no slot holds -/
theorem Sl.setl (s : Sl W B Γ σ H) {p : Addr} {xs : List V} {ds : List D} (e : H p = some (.lst xs)) (r : RpL H xs ds) (hb : B p = none) (hm : ¬ W.M p)
    (hn : ∀ (j : Nat) (es : List D), Γ[j]? = some (.l es) → σ[j]? ≠ some (some (.ref p))) (i : Nat) : Sl W B (Γ.set i (.l ds)) (σ.set i (some (.ref p))) H where
  x := s.x
  len := by simp [s.len]
  da := fun j y e => by
    rcases set_get e with ⟨rfl, z⟩ | ⟨n, z⟩
    · cases z
    · obtain ⟨u, a, b⟩ := s.da j y z
      exact ⟨u, by rw [List.getElem?_set_ne n]; exact a, b⟩
  li := fun j es e' => by
    rcases set_get e' with ⟨rfl, z⟩ | ⟨n, z⟩
    · cases z; exact ⟨p, xs, set_len_get s.len e', e, r, hb, hm⟩
    · obtain ⟨p, xs, a, b⟩ := s.li j es z
      exact ⟨p, xs, by rw [List.getElem?_set_ne n]; exact a, b⟩
  ra := fun j y e => by
    rcases set_get e with ⟨rfl, z⟩ | ⟨n, z⟩
    · cases z
    · rw [List.getElem?_set_ne n]; exact s.ra j y z
  ne := fun j k fs es q njk e1 e2 e3 => by
    rcases set_get e1 with ⟨rfl, z1⟩ | ⟨n1, z1⟩ <;> rcases set_get e2 with ⟨rfl, z2⟩ | ⟨n2, z2⟩
    · exact absurd rfl njk
    · rw [set_len_get s.len e1] at e3
      cases e3
      rw [List.getElem?_set_ne n2]
      exact hn k es z2
    · rw [List.getElem?_set_ne n1] at e3
      rw [set_len_get s.len e2]
      intro z
      cases z
      exact hn j fs z1 e3
    · rw [List.getElem?_set_ne n1] at e3
      rw [List.getElem?_set_ne n2]
      exact s.ne j k fs es q njk z1 z2 e3
/-- the list in slot i is written -/
theorem Sl.upd (s : Sl W B Γ σ H) {i : Nat} {ds es : List D} {p : Addr} {ys : List V} (hi : Γ[i]? = some (.l ds)) (hp : σ[i]? = some (some (.ref p))) (r : RpL H ys es) :
    Sl W B (Γ.set i (.l es)) σ (upd H p (.lst ys)) := by
  obtain ⟨q, xs, a, b, c, d, m⟩ := s.li i ds hi
  rw [hp] at a; cases a
  have tk : Tk H (L2.upd H p (.lst ys)) := fun a xs e => by
    rw [upd_ne]
    · exact e
    · intro z; subst z; rw [b] at e; cases e
  have x : Xt W B (L2.upd H p (.lst ys)) := s.x.put s.i d m fun xs e => by rw [b] at e; cases e
  refine ⟨x, by simp [s.len], fun j y e => ?_, fun j fs e => ?_, fun j y e => ?_, fun j k fs gs q njk e1 e2 e3 => ?_⟩
  · rcases set_get e with ⟨rfl, z⟩ | ⟨n, z⟩
    · cases z
    · obtain ⟨u, a, b⟩ := s.da j y z
      exact ⟨u, a, b.mono tk⟩
  · rcases set_get e with ⟨rfl, z⟩ | ⟨n, z⟩
    · cases z; exact ⟨p, ys, hp, upd_same, r.mono tk, d, m⟩
    · obtain ⟨q, zs, a, b, c, d, m⟩ := s.li j fs z
      refine ⟨q, zs, a, ?_, c.mono tk, d, m⟩
      rw [upd_ne]
      · exact b
      · intro z'; subst z'; exact s.ne i j ds fs q n hi z hp a
  · rcases set_get e with ⟨rfl, z⟩ | ⟨n, z⟩
    · cases z
    · exact s.ra j y z
  · have back : ∀ {j : Nat} {fs : List D}, (Γ.set i (.l es))[j]? = some (.l fs) → ∃ fs', Γ[j]? = some (.l fs') := fun {j fs} e => by
      rcases set_get e with ⟨rfl, z⟩ | ⟨n, z⟩
      · exact ⟨_, hi⟩
      · exact ⟨_, z⟩
    obtain ⟨f1, g1⟩ := back e1
    obtain ⟨f2, g2⟩ := back e2
    exact s.ne j k f1 f2 q njk g1 g2 e3
end
end Ly

set_option Elab.async false
set_option maxRecDepth 100000
set_option linter.unusedVariables false
namespace Ly
open PySem L2
/-! ### what an expression gives -/
section
variable (W : Wd)
/-- data with P -/
def Dn (te : TE) (Γ : List AV) (P : D → Prop) : Prop := ∀ (B : Hp) (σ : L2.St) (H : Hp), Sl W B Γ σ H → ∀ Q : VK, (∀ v y H', Xt W H H' → Rp H' v y → P y → Q v H') → te σ H Q
abbrev ED (te : TE) (Γ : List AV) (x : D) : Prop := Dn W te Γ (fun y => y = x)
/-- a new list of data -/
def Ln (te : TE) (Γ : List AV) (P : List D → Prop) : Prop := ∀ (B : Hp) (σ : L2.St) (H : Hp), Sl W B Γ σ H → ∀ Q : VK, (∀ p xs ds H', H p = none → Xt W H H' → H' p = some (.lst xs) → RpL H' xs ds → P ds → Q (.ref p) H') → te σ H Q
abbrev EL (te : TE) (Γ : List AV) (ds : List D) : Prop := Ln W te Γ (fun y => y = ds)
/-- a list of data, new or own -/
def ER (te : TE) (Γ : List AV) (ds : List D) : Prop := ∀ (B : Hp) (σ : L2.St) (H : Hp), Sl W B Γ σ H → ∀ Q : VK, (∀ p xs H', Xt W H H' → H' p = some (.lst xs) → ¬ W.M p → RpL H' xs ds → Q (.ref p) H') → te σ H Q
def Tn (tt : TT) (Γ : List AV) (P : Bool → Prop) : Prop := ∀ (B : Hp) (σ : L2.St) (H : Hp), Sl W B Γ σ H → ∀ Q : Bool → Hp → Prop, (∀ b H', Xt W H H' → P b → Q b H') → tt σ H Q
abbrev ET (tt : TT) (Γ : List AV) (b : Bool) : Prop := Tn W tt Γ (fun y => y = b)
def An (ta : TA) (Γ : List AV) (P : List D → Prop) : Prop := ∀ (B : Hp) (σ : L2.St) (H : Hp), Sl W B Γ σ H → ∀ Q : List V → Hp → Prop, (∀ vs ds H', Xt W H H' → RpL H' vs ds → P ds → Q vs H') → ta σ H Q
abbrev EA (ta : TA) (Γ : List AV) (ds : List D) : Prop := An W ta Γ (fun y => y = ds)
def EO (to : TO) (Γ : List AV) (o : Option Int) : Prop := ∀ (B : Hp) (σ : L2.St) (H : Hp), Sl W B Γ σ H → ∀ Q : Option Int → Hp → Prop, (∀ H', Xt W H H' → Q o H') → to σ H Q
/-- an operation on data; a call on data; a call that gives a new list -/
def RD (r : R2) (x y : D) (P : D → Prop) : Prop := ∀ (H : Hp) (v u : V), W.I H → Rp H v x → Rp H u y → ∀ Q : VK, (∀ w z H', Xt W H H' → Rp H' w z → P z → Q w H') → r v u H Q
def RU (r : V → Hp → VK → Prop) (x : D) (P : D → Prop) : Prop := ∀ (H : Hp) (v : V), W.I H → Rp H v x → ∀ Q : VK, (∀ w z H', Xt W H H' → Rp H' w z → P z → Q w H') → r v H Q
def CD (r : List V → Hp → VK → Prop) (ds : List D) (P : D → Prop) : Prop := ∀ (H : Hp) (vs : List V), W.I H → RpL H vs ds → ∀ Q : VK, (∀ w z H', Xt W H H' → Rp H' w z → P z → Q w H') → r vs H Q
def CL (r : List V → Hp → VK → Prop) (ds : List D) (P : List D → Prop) : Prop := ∀ (H : Hp) (vs : List V), W.I H → RpL H vs ds → ∀ Q : VK, (∀ p xs es H', H p = none → Xt W H H' → H' p = some (.lst xs) → RpL H' xs es → P es → Q (.ref p) H') → r vs H Q
end
section
variable {W : Wd} {Γ : List AV} {ta tb te : TE} {tt tu : TT} {x y z : D} {ds es : List D} {K : PySem.W.Frag} {P P1 P2 : D → Prop} {B1 B2 : Bool → Prop} {A A1 : List D → Prop}
theorem Dn.imp (h : Dn W te Γ P) (k : ∀ y, P y → P1 y) : Dn W te Γ P1 := fun B σ H s Q q => h B σ H s Q fun v y H' a b c => q v y H' a b (k y c)
theorem ED.to (h : ED W te Γ x) (k : x = y) : ED W te Γ y := k ▸ h
theorem ET.to {b c : Bool} (h : ET W tt Γ b) (k : b = c) : ET W tt Γ c := k ▸ h
theorem EL.to (h : EL W te Γ ds) (k : ds = es) : EL W te Γ es := k ▸ h
theorem ER.to (h : ER W te Γ ds) (k : ds = es) : ER W te Γ es := k ▸ h
theorem EL.er (h : EL W te Γ ds) : ER W te Γ ds := fun B σ H s Q q => h B σ H s Q fun p xs es H' n a b c e => by
  subst e
  exact q p xs H' a b (notM s.i n) c
theorem ed_var {i : Nat} (h : Γ[i]? = some (.d x)) : ED W (tVar i) Γ x := fun B σ H s Q q => by
  obtain ⟨v, a, b⟩ := s.da i x h
  exact ⟨v, a, q v x H (Xt.refl s.i) b rfl⟩
theorem er_var {i : Nat} (h : Γ[i]? = some (.l ds)) : ER W (tVar i) Γ ds := fun B σ H s Q q => by
  obtain ⟨p, xs, a, b, c, d, m⟩ := s.li i ds h
  exact ⟨_, a, q p xs H (Xt.refl s.i) b m c⟩
theorem ed_int {i : Int} : ED W (tC (.int i)) Γ (.int i) := fun B σ H s Q q => q _ _ H (Xt.refl s.i) (.int i) rfl
theorem ed_bl {b : Bool} : ED W (tC (.bl b)) Γ (.bl b) := fun B σ H s Q q => q _ _ H (Xt.refl s.i) (.bl b) rfl
theorem ed_str {b : Str} : ED W (tC (.str b)) Γ (.str b) := fun B σ H s Q q => q _ _ H (Xt.refl s.i) (.str b) rfl
theorem ed_ty {b : String} : ED W (tC (.ty b)) Γ (.raw (.ty b)) := fun B σ H s Q q => q _ _ H (Xt.refl s.i) (.raw (.ty b)) rfl
theorem ed_non : ED W (tC .non) Γ .non := fun B σ H s Q q => q _ _ H (Xt.refl s.i) .non rfl
theorem an_nil : EA W tNil Γ [] := fun B σ H s Q q => q _ _ H (Xt.refl s.i) .nil rfl
theorem an_cons {tr : TA} (h : Dn W ta Γ P) (hr : An W tr Γ A) (k : ∀ y ys, P y → A ys → A1 (y :: ys)) : An W (tCons ta tr) Γ A1 := fun B σ H s Q q =>
  h B σ H s _ fun v y H1 x1 r1 p1 => hr B σ H1 (s.mono x1) _ fun vs ys H2 x2 r2 p2 => q (v :: vs) (y :: ys) H2 (x1.trans x2) (.cons (r1.mono (x2.tk x1.2)) r2) (k y ys p1 p2)
theorem ea_cons {tr : TA} (h : ED W ta Γ x) (hr : EA W tr Γ ds) : EA W (tCons ta tr) Γ (x :: ds) := an_cons h hr fun y ys a b => by rw [a, b]
theorem dn_tup {t : TA} (h : An W t Γ A) (k : ∀ ys, A ys → ys.length ≤ 100000 ∧ P (.tup ys)) : Dn W (tTup t) Γ P := fun B σ H s Q q =>
  h B σ H s _ fun vs ys H1 x1 r1 a => by
    obtain ⟨hl, hp⟩ := k ys a
    refine ⟨by rw [r1.length]; exact Nat.le_trans hl (by decide), fun p hp' => ?_⟩
    have e : Xt W H1 (upd H1 p (.tup vs)) := Xt.new x1.2 hp'
    exact q (.ref p) (.tup ys) _ (x1.trans e) (.tup upd_same (r1.mono (e.tk x1.2))) hp
theorem ed_tup {t : TA} (h : EA W t Γ ds) (hl : ds.length ≤ 100000) : ED W (tTup t) Γ (.tup ds) := dn_tup h fun ys a => by rw [a]; exact ⟨hl, rfl⟩
theorem ln_lst {t : TA} (h : An W t Γ A) (k : ∀ ys, A ys → ys.length ≤ 100000 ∧ A1 ys) : Ln W (tLst t) Γ A1 := fun B σ H s Q q =>
  h B σ H s _ fun vs ys H1 x1 r1 a => by
    obtain ⟨hl, hp⟩ := k ys a
    refine ⟨by rw [r1.length]; exact Nat.le_trans hl (by decide), fun p hp' => ?_⟩
    have e : Xt W H1 (upd H1 p (.lst vs)) := Xt.new x1.2 hp'
    exact q p vs ys _ (x1.free s.i hp') (x1.trans e) upd_same (r1.mono (e.tk x1.2)) hp
theorem el_lst {t : TA} (h : EA W t Γ ds) (hl : ds.length ≤ 100000) : EL W (tLst t) Γ ds := ln_lst h fun ys a => by rw [a]; exact ⟨hl, rfl⟩
/-! ### operators -/
theorem dn_op {r : R2} (ha : Dn W ta Γ P1) (hb : Dn W tb Γ P2) (hr : ∀ x y, P1 x → P2 y → RD W r x y P) : Dn W (tOp r ta tb) Γ P := fun B σ H s Q q =>
  ha B σ H s _ fun v x H1 x1 r1 p1 => hb B σ H1 (s.mono x1) _ fun u y H2 x2 r2 p2 => hr x y p1 p2 H2 v u x2.2 (r1.mono (x2.tk x1.2)) r2 Q fun w z H3 x3 r3 p3 => q w z H3 (x1.trans (x2.trans x3)) r3 p3
theorem ed_op {r : R2} (ha : ED W ta Γ x) (hb : ED W tb Γ y) (hr : RD W r x y P) : Dn W (tOp r ta tb) Γ P := dn_op ha hb fun a b p1 p2 => by rw [p1, p2]; exact hr
theorem ed_un {r : V → Hp → VK → Prop} (ha : ED W ta Γ x) (hr : RU W r x P) : Dn W (tUn r ta) Γ P := fun B σ H s Q q =>
  ha B σ H s _ fun v x H1 x1 r1 p1 => by
    subst p1
    exact hr H1 v x1.2 r1 Q fun w z H3 x3 r3 p3 => q w z H3 (x1.trans x3) r3 p3
theorem rd_I0 {g : Int → Int → V} {i j : Int} (h : ∀ H, Rp H (g i j) z) : RD W (rI0 g) (.int i) (.int j) (fun y => y = z) := fun H v u hi r1 r2 Q q => by
  cases r1; cases r2
  exact ⟨i, j, rfl, rfl, q _ z H (Xt.refl hi) (h H) rfl⟩
theorem rd_I {C : Int → Int → Prop} {g : Int → Int → V} {i j : Int} (hc : C i j) (h : ∀ H, Rp H (g i j) z) : RD W (rI C g) (.int i) (.int j) (fun y => y = z) := fun H v u hi r1 r2 Q q => by
  cases r1; cases r2
  exact ⟨i, j, rfl, rfl, hc, q _ z H (Xt.refl hi) (h H) rfl⟩
theorem ru_neg {i : Int} : RU W (rU fun i => .int (-i)) (.int i) (fun y => y = .int (-i)) := fun H v hi r1 Q q => by
  cases r1
  exact ⟨i, rfl, q _ _ H (Xt.refl hi) (.int _) rfl⟩
/-! #### + -/
def rAddU (K : PySem.W.Frag) : R2 := fun x y H Q => (rI0 (fun i j => .int (i + j)) x y H Q ∨ rCatA K x y H Q) ∨ rCat x y H Q
theorem op_addU {X : Cx} : OpR X (binaryOp .Add) (rAddU X.K) := (op_add.or op_catA).or op_cat
theorem ed_addI {i j : Int} (ha : ED W ta Γ (.int i)) (hb : ED W tb Γ (.int j)) : ED W (tOp (rAddU K) ta tb) Γ (.int (i + j)) :=
  ed_op ha hb fun H v u hi r1 r2 Q q => .inl (.inl (rd_I0 (z := .int (i + j)) (fun _ => .int _) H v u hi r1 r2 Q q))
theorem line5 {n : Nat} (h : n ≤ 100000) : n ≤ sizeLine := Nat.le_trans h (by decide)
theorem rd_catA (h : ds.length + es.length ≤ 100000) : RD W (rCatA K) (.tup ds) (.tup es) (fun y => y = .tup (ds ++ es)) := fun H v u hi r1 r2 Q q => by
  cases r1 with
  | tup e1 l1 =>
    cases r2 with
    | tup e2 l2 =>
      rename_i a xs b ys
      refine ⟨a, b, xs, ys, rfl, rfl, .of e1, .of e2, by rw [l1.length, l2.length]; exact line5 h, fun z => ?_, fun _ z => ?_, fun _ _ p hp => ?_⟩
      · subst z
        cases l1
        exact q _ _ H (Xt.refl hi) (.tup e2 l2) rfl
      · subst z
        cases l2
        exact q _ _ H (Xt.refl hi) (.tup e1 l1) (by rw [List.append_nil])
      · have e : Xt W H (upd H p (.tup (xs ++ ys))) := Xt.new hi hp
        exact q _ _ _ e (.tup upd_same ((l1.append l2).mono (e.tk hi))) rfl
theorem ed_addT (ha : ED W ta Γ (.tup ds)) (hb : ED W tb Γ (.tup es)) (h : ds.length + es.length ≤ 100000) : ED W (tOp (rAddU K) ta tb) Γ (.tup (ds ++ es)) :=
  ed_op ha hb fun H v u hi r1 r2 Q q => .inl (.inr (rd_catA h H v u hi r1 r2 Q q))
theorem el_addL (ha : ER W ta Γ ds) (hb : ER W tb Γ es) (h : ds.length + es.length ≤ 100000) : EL W (tOp (rAddU K) ta tb) Γ (ds ++ es) := fun B σ H s Q q =>
  ha B σ H s _ fun p xs H1 x1 e1 m1 r1 => hb B σ H1 (s.mono x1) _ fun p2 ys H2 x2 e2 m2 r2 => .inr <| by
    refine ⟨p, p2, xs, ys, rfl, rfl, x2.1 _ _ e1 m1, e2, by rw [r1.length, r2.length]; exact line5 h, fun n hn => ?_⟩
    have e : Xt W H2 (upd H2 n (.lst (xs ++ ys))) := Xt.new x2.2 hn
    exact q n _ _ _ (x1.free s.i (x2.free x1.2 hn)) (x1.trans (x2.trans e)) upd_same (((r1.mono (x2.tk x1.2)).append r2).mono (e.tk x2.2)) rfl
abbrev rSubI : R2 := rI0 (fun i j => .int (i - j))
theorem ed_sub {i j : Int} (ha : ED W ta Γ (.int i)) (hb : ED W tb Γ (.int j)) : ED W (tOp rSubI ta tb) Γ (.int (i - j)) := ed_op ha hb (rd_I0 fun _ => .int _)
abbrev rMulI : R2 := rI CMulW (fun i j => .int (i * j))
theorem ed_mul {i j : Int} (ha : ED W ta Γ (.int i)) (hb : ED W tb Γ (.int j)) (h : CMulW i j) : ED W (tOp rMulI ta tb) Γ (.int (i * j)) := ed_op ha hb (rd_I h fun _ => .int _)
abbrev rDivI : R2 := rI CDiv (fun i j => .int (i / j))
theorem ed_div {i j : Int} (ha : ED W ta Γ (.int i)) (hb : ED W tb Γ (.int j)) (h : CDiv i j) : ED W (tOp rDivI ta tb) Γ (.int (i / j)) := ed_op ha hb (rd_I h fun _ => .int _)
abbrev rModI : R2 := rI (fun _ j => 0 < j) (fun i j => .int (i % j))
theorem ed_mod {i j : Int} (ha : ED W ta Γ (.int i)) (hb : ED W tb Γ (.int j)) (h : 0 < j) : ED W (tOp rModI ta tb) Γ (.int (i % j)) := ed_op ha hb (rd_I h fun _ => .int _)
abbrev rPowI : R2 := rI CPow (fun i j => .int (i ^ j.toNat))
theorem ed_pow {i j : Int} (ha : ED W ta Γ (.int i)) (hb : ED W tb Γ (.int j)) (h : CPow i j) : ED W (tOp rPowI ta tb) Γ (.int (i ^ j.toNat)) := ed_op ha hb (rd_I h fun _ => .int _)
abbrev rLtI : R2 := rI0 (fun i j => .bl (decide (i < j)))
abbrev rLeI : R2 := rI0 (fun i j => .bl (decide (i ≤ j)))
abbrev rGtI : R2 := rI0 (fun i j => .bl (decide (j < i)))
abbrev rGeI : R2 := rI0 (fun i j => .bl (decide (j ≤ i)))
theorem ed_lt {i j : Int} (ha : ED W ta Γ (.int i)) (hb : ED W tb Γ (.int j)) : ED W (tOp rLtI ta tb) Γ (.bl (decide (i < j))) := ed_op ha hb (rd_I0 fun _ => .bl _)
theorem ed_le {i j : Int} (ha : ED W ta Γ (.int i)) (hb : ED W tb Γ (.int j)) : ED W (tOp rLeI ta tb) Γ (.bl (decide (i ≤ j))) := ed_op ha hb (rd_I0 fun _ => .bl _)
theorem ed_gt {i j : Int} (ha : ED W ta Γ (.int i)) (hb : ED W tb Γ (.int j)) : ED W (tOp rGtI ta tb) Γ (.bl (decide (j < i))) := ed_op ha hb (rd_I0 fun _ => .bl _)
theorem ed_ge {i j : Int} (ha : ED W ta Γ (.int i)) (hb : ED W tb Γ (.int j)) : ED W (tOp rGeI ta tb) Γ (.bl (decide (j ≤ i))) := ed_op ha hb (rd_I0 fun _ => .bl _)
/-! #### equality -/
mutual
def D.py : D → PyData
  | .non => .none
  | .bl b => .bool b
  | .int i => .int i
  | .str x => .str x
  | .raw _ => .none
  | .tup ds => .tuple (D.pys ds)
def D.pys : List D → List PyData
  | [] => []
  | d :: ds => D.py d :: D.pys ds
end
mutual
/-- no class within; texts of a good form; not too deep -/
def D.nty : D → Bool
  | .raw _ => false
  | .tup ds => D.ntys ds
  | _ => true
def D.ntys : List D → Bool
  | [] => true
  | d :: ds => D.nty d && D.ntys ds
end
def D.fine (d : D) : Bool := d.nty && SeqAt.shaped d.py
mutual
theorem Rp.dp {H : Hp} (K : PySem.W.Frag) : ∀ (d : D) (v : V), d.nty = true → Rp H v d → Dp K H v d.py
  | .non, _, _, h => by cases h; exact .non
  | .bl _, _, _, h => by cases h; exact .bl _
  | .int _, _, _, h => by cases h; exact .int _
  | .str _, _, _, h => by cases h; exact .str _
  | .raw _, _, n, _ => by simp [D.nty] at n
  | .tup ds, _, n, h => by
    cases h with
    | tup e r => exact .tup (.of e) (RpL.dp K ds _ (by simpa [D.nty] using n) r)
theorem RpL.dp {H : Hp} (K : PySem.W.Frag) : ∀ (ds : List D) (xs : List V), D.ntys ds = true → RpL H xs ds → DpAll K H xs (D.pys ds)
  | [], _, _, h => by cases h; exact .nil
  | d :: ds, _, n, h => by
    cases h with
    | cons a b =>
      have n' : d.nty = true ∧ D.ntys ds = true := by simpa [D.ntys] using n
      exact .cons (Rp.dp K d _ n'.1 a) (RpL.dp K ds _ n'.2 b)
end
def Deq (x y : D) : Bool := PyData.eqv x.py y.py
def rEqU (K : PySem.W.Frag) : R2 := fun x y H Q => rEq x y H Q ∨ rEqD K x y H Q
def rNeU (K : PySem.W.Frag) : R2 := fun x y H Q => rNe x y H Q ∨ rNeD K x y H Q
theorem op_eqU {X : Cx} (hu : X.A.units + 64 < cLine) : OpR X (compareOp .Eq) (rEqU X.K) := op_eq.or (op_eqD hu)
theorem op_neU {X : Cx} (hu : X.A.units + 64 < cLine) : OpR X (compareOp .NotEq) (rNeU X.K) := op_ne.or (op_neD hu)
theorem ed_eq (ha : ED W ta Γ x) (hb : ED W tb Γ y) (hx : x.fine = true) (hy : y.fine = true) : ED W (tOp (rEqU K) ta tb) Γ (.bl (Deq x y)) :=
  ed_op ha hb fun H v u hi r1 r2 Q q => .inr <| by
    have hx' : x.nty = true ∧ SeqAt.shaped x.py = true := by simpa [D.fine] using hx
    have hy' : y.nty = true ∧ SeqAt.shaped y.py = true := by simpa [D.fine] using hy
    exact ⟨x.py, y.py, r1.dp K _ _ hx'.1, r2.dp K _ _ hy'.1, hx'.2, hy'.2, q _ _ H (Xt.refl hi) (.bl _) rfl⟩
theorem ed_ne (ha : ED W ta Γ x) (hb : ED W tb Γ y) (hx : x.fine = true) (hy : y.fine = true) : ED W (tOp (rNeU K) ta tb) Γ (.bl (!Deq x y)) :=
  ed_op ha hb fun H v u hi r1 r2 Q q => .inr <| by
    have hx' : x.nty = true ∧ SeqAt.shaped x.py = true := by simpa [D.fine] using hx
    have hy' : y.nty = true ∧ SeqAt.shaped y.py = true := by simpa [D.fine] using hy
    exact ⟨x.py, y.py, r1.dp K _ _ hx'.1, r2.dp K _ _ hy'.1, hx'.2, hy'.2, q _ _ H (Xt.refl hi) (.bl _) rfl⟩
/-- two ints -/
theorem ed_eqI {i j : Int} (ha : ED W ta Γ (.int i)) (hb : ED W tb Γ (.int j)) : ED W (tOp (rEqU K) ta tb) Γ (.bl (decide (i = j))) :=
  ed_op ha hb fun H v u hi r1 r2 Q q => .inl <| by
    cases r1; cases r2
    exact ⟨rfl, q _ _ H (Xt.refl hi) (by rw [show decide (V.int i = V.int j) = decide (i = j) by simp]; exact .bl _) rfl⟩
theorem ed_neI {i j : Int} (ha : ED W ta Γ (.int i)) (hb : ED W tb Γ (.int j)) : ED W (tOp (rNeU K) ta tb) Γ (.bl (!decide (i = j))) :=
  ed_op ha hb fun H v u hi r1 r2 Q q => .inl <| by
    cases r1; cases r2
    exact ⟨rfl, q _ _ H (Xt.refl hi) (by rw [show decide (V.int i = V.int j) = decide (i = j) by simp]; exact .bl _) rfl⟩
theorem ed_eqB {i j : Bool} (ha : ED W ta Γ (.bl i)) (hb : ED W tb Γ (.bl j)) : ED W (tOp (rEqU K) ta tb) Γ (.bl (decide (i = j))) :=
  ed_op ha hb fun H v u hi r1 r2 Q q => .inl <| by
    cases r1; cases r2
    exact ⟨rfl, q _ _ H (Xt.refl hi) (by rw [show decide (V.bl i = V.bl j) = decide (i = j) by simp]; exact .bl _) rfl⟩
theorem ed_neB {i j : Bool} (ha : ED W ta Γ (.bl i)) (hb : ED W tb Γ (.bl j)) : ED W (tOp (rNeU K) ta tb) Γ (.bl (!decide (i = j))) :=
  ed_op ha hb fun H v u hi r1 r2 Q q => .inl <| by
    cases r1; cases r2
    exact ⟨rfl, q _ _ H (Xt.refl hi) (by rw [show decide (V.bl i = V.bl j) = decide (i = j) by simp]; exact .bl _) rfl⟩
theorem ed_eqS {i j : Str} (ha : ED W ta Γ (.str i)) (hb : ED W tb Γ (.str j)) : ED W (tOp (rEqU K) ta tb) Γ (.bl (decide (i = j))) :=
  ed_op ha hb fun H v u hi r1 r2 Q q => .inl <| by
    cases r1; cases r2
    exact ⟨rfl, q _ _ H (Xt.refl hi) (by rw [show decide (V.str i = V.str j) = decide (i = j) by simp]; exact .bl _) rfl⟩
theorem ed_neS {i j : Str} (ha : ED W ta Γ (.str i)) (hb : ED W tb Γ (.str j)) : ED W (tOp (rNeU K) ta tb) Γ (.bl (!decide (i = j))) :=
  ed_op ha hb fun H v u hi r1 r2 Q q => .inl <| by
    cases r1; cases r2
    exact ⟨rfl, q _ _ H (Xt.refl hi) (by rw [show decide (V.str i = V.str j) = decide (i = j) by simp]; exact .bl _) rfl⟩
/-- is None, is not None -/
def D.isNon : D → Bool
  | .non => true
  | .raw v => decide (v = .non)
  | _ => false
theorem Rp.isNon {H : Hp} {v : V} {x : D} (r : Rp H v x) : decide (v = .non) = x.isNon := by
  cases r <;> rfl
abbrev rIsU : R2 := fun x y H Q => y = .non ∧ Q (.bl (decide (x = .non))) H
abbrev rNotU : R2 := fun x y H Q => y = .non ∧ Q (.bl (!decide (x = .non))) H
theorem ed_isN (ha : ED W ta Γ x) : ED W (tOp rIsU ta (tC .non)) Γ (.bl x.isNon) :=
  ed_op ha ed_non fun H v u hi r1 r2 Q q => by
    cases r2
    refine ⟨rfl, q _ _ H (Xt.refl hi) (.bl _) ?_⟩
    rw [r1.isNon]
theorem ed_notN (ha : ED W ta Γ x) : ED W (tOp rNotU ta (tC .non)) Γ (.bl (!x.isNon)) :=
  ed_op ha ed_non fun H v u hi r1 r2 Q q => by
    cases r2
    refine ⟨rfl, q _ _ H (Xt.refl hi) (.bl _) ?_⟩
    rw [r1.isNon]
/-! #### subscripts -/
theorem ed_ixT {i : Int} (ha : ED W ta Γ (.tup ds)) (hb : ED W tb Γ (.int i)) (h : L2.atI ds i = some x) : ED W (tOp (rIx K) ta tb) Γ x :=
  ed_op ha hb fun H v u hi r1 r2 Q q => .inr <| .inl <| by
    cases r2
    cases r1 with
    | tup e l =>
      obtain ⟨w, a, b⟩ := l.atI h
      exact ⟨_, _, i, w, rfl, rfl, .of e, a, q _ _ H (Xt.refl hi) b rfl⟩
theorem ed_ixL {i : Int} (ha : ER W ta Γ ds) (hb : ED W tb Γ (.int i)) (h : L2.atI ds i = some x) : ED W (tOp (rIx K) ta tb) Γ x := fun B σ H s Q q =>
  ha B σ H s _ fun p xs H1 x1 e1 m1 r1 => hb B σ H1 (s.mono x1) _ fun u y H2 x2 r2 p2 => .inl <| by
    subst p2
    cases r2
    obtain ⟨w, a, b⟩ := (r1.mono (x2.tk x1.2)).atI h
    exact ⟨p, xs, i, w, rfl, rfl, .of (x2.1 _ _ e1 m1), a, q _ _ H2 (x1.trans x2) b rfl⟩
theorem eo_none : EO W tNoPart Γ none := fun B σ H s Q q => q H (Xt.refl s.i)
theorem eo_some {i : Int} (h : ED W te Γ (.int i)) : EO W (tPart te) Γ (some i) := fun B σ H s Q q => h B σ H s _ fun v y H' x r e => by
  subst e
  cases r
  exact ⟨i, rfl, q H' x⟩
def cutD {α : Type} (xs : List α) (lo hi : Option Int) : List α := (xs.drop (HT.sIx xs.length 0 lo)).take (HT.sIx xs.length xs.length hi - HT.sIx xs.length 0 lo)
theorem cutD_whole {α : Type} {xs : List α} {lo hi : Option Int} (h : HT.sIx xs.length 0 lo = 0 ∧ HT.sIx xs.length xs.length hi = xs.length) : cutD xs lo hi = xs := by
  unfold cutD
  rw [h.1, h.2]
  simp
theorem cutD_take {α : Type} (xs : List α) (k : Nat) : cutD xs none (some (k : Int)) = xs.take k := by
  unfold cutD
  rw [HT.sIx_none, HT.sIx_nat, List.drop_zero, Nat.sub_zero]
  rcases Nat.le_total k xs.length with h | h
  · rw [Nat.min_eq_left h]
  · rw [Nat.min_eq_right h, List.take_of_length_le (Nat.le_refl _), List.take_of_length_le h]
theorem cutD_drop {α : Type} (xs : List α) (k : Nat) : cutD xs (some (k : Int)) none = xs.drop k := by
  unfold cutD
  rw [HT.sIx_none, HT.sIx_nat]
  rcases Nat.le_total k xs.length with h | h
  · rw [Nat.min_eq_left h, List.take_of_length_le (by rw [List.length_drop]; exact Nat.le_refl _)]
  · rw [Nat.min_eq_right h, Nat.sub_self, List.take_zero, List.drop_of_length_le h]
theorem ed_sl {tl th : TO} {lo hi : Option Int} (ha : ED W ta Γ (.tup ds)) (hl : EO W tl Γ lo) (hh : EO W th Γ hi) : ED W (tSl (rSlA K) ta tl th) Γ (.tup (cutD ds lo hi)) := fun B σ H s Q q =>
  ha B σ H s _ fun v y H1 x1 r1 p1 => hl B σ H1 (s.mono x1) _ fun H2 x2 => hh B σ H2 ((s.mono x1).mono x2) _ fun H3 x3 => by
    subst p1
    have t12 := x2.trans x3
    have r3 := r1.mono (t12.tk x1.2)
    cases r3 with
    | tup e l =>
      rename_i a xs
      refine ⟨a, xs, rfl, .of e, fun w => ?_, fun w p hp => ?_⟩
      · rw [l.length] at w
        exact q _ _ H3 (x1.trans t12) (.tup e l) (by rw [cutD_whole w])
      · have e' : Xt W H3 (upd H3 p (.tup (cutV xs lo hi))) := Xt.new x3.2 hp
        refine q _ _ _ (x1.trans (t12.trans e')) (.tup upd_same (RpL.mono (e'.tk x3.2) _ _ ?_)) rfl
        unfold cutV cutD
        rw [l.length]
        exact (l.drop _).take _
/-! #### tests -/
theorem et_val (h : Dn W te Γ P) (k : ∀ y, P y → ∃ b, y = .bl b ∧ B1 b) : Tn W (tB te) Γ B1 := fun B σ H s Q q => h B σ H s _ fun v y H' x r p => by
  obtain ⟨b, rfl, hb⟩ := k y p
  cases r
  exact ⟨b, rfl, q b H' x hb⟩
theorem et_B {b : Bool} (h : ED W te Γ (.bl b)) : ET W (tB te) Γ b := et_val h fun y e => ⟨b, e, rfl⟩
theorem et_test {b : Bool} (h : ED W te Γ (.bl b)) : ET W (tTest te) Γ b := fun B σ H s Q q => h B σ H s _ fun v y H' x r p => by
  subst p
  cases r
  exact ⟨b, rfl, q b H' x rfl⟩
theorem tn_test (h : Dn W te Γ P) (k : ∀ y, P y → ∃ b, y = .bl b ∧ B1 b) : Tn W (tTest te) Γ B1 := fun B σ H s Q q => h B σ H s _ fun v y H' x r p => by
  obtain ⟨b, rfl, hb⟩ := k y p
  cases r
  exact ⟨b, rfl, q b H' x hb⟩
def tTr (K : PySem.W.Frag) (ta : TE) : TT := fun σ H Q => ta σ H fun x H' => ∃ k, TruV K x H' k ∧ Q k H'
theorem pt_tr {X : Cx} {a : Expr} (ha : PE X a ta) (he : ∀ whole, isTrue a X.env whole = (do let v ← whole; standAt a.pos; holding [v] (truthy v)) := by intro _; rfl) : PT X a (tTr X.K ta) := pt_truth ha he
def D.tru : D → Bool
  | .non => false
  | .bl b => b
  | .int i => i != 0
  | .tup ds => !ds.isEmpty
  | _ => true
theorem et_trD (h : ED W te Γ x) (hx : ∀ s, x ≠ .str s) (hx' : ∀ s, x ≠ .raw s) : ET W (tTr K te) Γ x.tru := fun B σ H s Q q => h B σ H s _ fun v y H' x1 r p => by
  subst p
  refine ⟨_, ?_, q _ H' x1 rfl⟩
  cases r with
  | non => exact (rfl : D.tru .non = false)
  | bl b => exact (rfl : D.tru (.bl b) = b)
  | int i => exact (rfl : D.tru (.int i) = (i != 0))
  | str x => exact absurd rfl (hx _)
  | raw x => exact absurd rfl (hx' _)
  | tup e l =>
    refine .inr (.inl ⟨_, .of e, ?_⟩)
    cases l <;> rfl
theorem et_trL (h : ER W te Γ ds) : ET W (tTr K te) Γ (!ds.isEmpty) := fun B σ H s Q q => h B σ H s _ fun p xs H' x1 e m r => by
  refine ⟨_, .inl ⟨_, .of e, rfl⟩, q _ H' x1 ?_⟩
  cases r <;> rfl
theorem tn_not (h : Tn W tt Γ B1) (k : ∀ b, B1 b → B2 (!b)) : Tn W (tNot tt) Γ B2 := fun B σ H s Q q => h B σ H s _ fun b H' x hb => q _ H' x (k b hb)
theorem et_not {b : Bool} (h : ET W tt Γ b) : ET W (tNot tt) Γ (!b) := tn_not h fun c e => by rw [e]
theorem et_and {a b : Bool} (h : ET W tt Γ a) (h2 : a = true → ET W tu Γ b) : ET W (tAnd tt tu) Γ (a && b) := fun B σ H s Q q => h B σ H s _ fun c H' x e => by
  subst e
  cases c with
  | true => exact h2 rfl B σ H' (s.mono x) _ fun d H2 x2 e => q _ H2 (x.trans x2) (by rw [e]; rfl)
  | false => exact q _ H' x rfl
theorem et_or {a b : Bool} (h : ET W tt Γ a) (h2 : a = false → ET W tu Γ b) : ET W (tOr tt tu) Γ (a || b) := fun B σ H s Q q => h B σ H s _ fun c H' x e => by
  subst e
  cases c with
  | true => exact q _ H' x rfl
  | false => exact h2 rfl B σ H' (s.mono x) _ fun d H2 x2 e => q _ H2 (x.trans x2) (by rw [e]; rfl)
theorem ed_and {a b : Bool} (h : ED W ta Γ (.bl a)) (h2 : a = true → ED W tb Γ (.bl b)) : ED W (tAndV ta tb) Γ (.bl (a && b)) := fun B σ H s Q q => h B σ H s _ fun v y H' x r e => by
  subst e
  cases r
  refine ⟨a, rfl, ?_⟩
  cases a with
  | true => exact h2 rfl B σ H' (s.mono x) _ fun u z H2 x2 r2 e => q _ _ H2 (x.trans x2) r2 (by rw [e]; rfl)
  | false => exact q _ _ H' x (.bl _) rfl
theorem ed_or {a b : Bool} (h : ED W ta Γ (.bl a)) (h2 : a = false → ED W tb Γ (.bl b)) : ED W (tOrV ta tb) Γ (.bl (a || b)) := fun B σ H s Q q => h B σ H s _ fun v y H' x r e => by
  subst e
  cases r
  refine ⟨a, rfl, ?_⟩
  cases a with
  | true => exact q _ _ H' x (.bl _) rfl
  | false => exact h2 rfl B σ H' (s.mono x) _ fun u z H2 x2 r2 e => q _ _ H2 (x.trans x2) r2 (by rw [e]; rfl)
theorem ed_not {a : Bool} (h : ED W ta Γ (.bl a)) : ED W (tNotV ta) Γ (.bl (!a)) := fun B σ H s Q q => h B σ H s _ fun v y H' x r e => by
  subst e
  cases r
  exact ⟨a, rfl, q _ _ H' x (.bl _) rfl⟩
theorem dn_if (h : Tn W tt Γ B1) (h1 : B1 true → Dn W ta Γ P) (h2 : B1 false → Dn W tb Γ P) : Dn W (tIf tt ta tb) Γ P := fun B σ H s Q q => h B σ H s _ fun c H' x e => by
  cases c with
  | true => exact h1 e B σ H' (s.mono x) _ fun u z H2 x2 r2 e => q _ _ H2 (x.trans x2) r2 e
  | false => exact h2 e B σ H' (s.mono x) _ fun u z H2 x2 r2 e => q _ _ H2 (x.trans x2) r2 e
theorem ed_if {b : Bool} (h : ET W tt Γ b) (h1 : b = true → Dn W ta Γ P) (h2 : b = false → Dn W tb Γ P) : Dn W (tIf tt ta tb) Γ P := dn_if h (fun e => h1 e.symm) fun e => h2 e.symm
theorem er_if {b : Bool} (h : ET W tt Γ b) (h1 : b = true → ER W ta Γ ds) (h2 : b = false → ER W tb Γ ds) : ER W (tIf tt ta tb) Γ ds := fun B σ H s Q q => h B σ H s _ fun c H' x e => by
  subst e
  cases c with
  | true => exact h1 rfl B σ H' (s.mono x) _ fun p xs H2 x2 e m r => q _ _ H2 (x.trans x2) e m r
  | false => exact h2 rfl B σ H' (s.mono x) _ fun p xs H2 x2 e m r => q _ _ H2 (x.trans x2) e m r
theorem ln_if {b : Bool} (h : ET W tt Γ b) (h1 : b = true → Ln W ta Γ A) (h2 : b = false → Ln W tb Γ A) : Ln W (tIf tt ta tb) Γ A := fun B σ H s Q q => h B σ H s _ fun c H' x e => by
  subst e
  cases c with
  | true => exact h1 rfl B σ H' (s.mono x) _ fun p xs es H2 n x2 e r a => q _ _ _ H2 (x.free s.i n) (x.trans x2) e r a
  | false => exact h2 rfl B σ H' (s.mono x) _ fun p xs es H2 n x2 e r a => q _ _ _ H2 (x.free s.i n) (x.trans x2) e r a
/-! #### calls -/
theorem dn_cb {r : List V → Hp → VK → Prop} {t : TA} (h : An W t Γ A) (k : ∀ ys, A ys → CD W r ys P) : Dn W (tCB r t) Γ P := fun B σ H s Q q => h B σ H s _ fun vs ys H' x rr a =>
  k ys a H' vs x.2 rr Q fun w z H2 x2 r2 p => q w z H2 (x.trans x2) r2 p
theorem ed_cb {r : List V → Hp → VK → Prop} {t : TA} (h : EA W t Γ ds) (k : CD W r ds P) : Dn W (tCB r t) Γ P := dn_cb h fun ys a => a ▸ k
theorem el_cb {r : List V → Hp → VK → Prop} {t : TA} (h : EA W t Γ ds) (k : CL W r ds A) : Ln W (tCB r t) Γ A := fun B σ H s Q q => h B σ H s _ fun vs ys H' x rr a => by
  subst a
  exact k H' vs x.2 rr Q fun p xs es H2 n x2 e r2 a => q p xs es H2 (x.free s.i n) (x.trans x2) e r2 a
/-- a built-in called with a list -/
theorem dn_cbL {r : List V → Hp → VK → Prop} (h : ER W te Γ ds) (k : ∀ (H : Hp) (p : Addr) (xs : List V), W.I H → H p = some (.lst xs) → RpL H xs ds → ∀ Q : VK, (∀ w z H', Xt W H H' → Rp H' w z → P z → Q w H') → r [.ref p] H Q) : Dn W (tCB r (tCons te tNil)) Γ P := fun B σ H s Q q =>
  h B σ H s _ fun p xs H' x e m rr => k H' p xs x.2 e rr Q fun w z H2 x2 r2 p => q w z H2 (x.trans x2) r2 p
def rLenS (K : PySem.W.Frag) : List V → Hp → VK → Prop := fun xs H Q => ∃ p ys, xs = [.ref p] ∧ (SqL K H p ys ∨ SqT K H p ys) ∧ Q (.int ys.length) H
def rListS (K : PySem.W.Frag) : List V → Hp → VK → Prop := fun xs H Q => ∃ p ys, xs = [.ref p] ∧ (SqL K H p ys ∨ SqT K H p ys) ∧ ∀ l, H l = none → Q (.ref l) (upd H l (.lst ys))
def rTupS (K : PySem.W.Frag) : List V → Hp → VK → Prop := fun xs H Q => ∃ p ys, xs = [.ref p] ∧ ((SqL K H p ys ∧ ∀ l, H l = none → Q (.ref l) (upd H l (.tup ys))) ∨ (SqT K H p ys ∧ Q (.ref p) H))
theorem call_lenS {X : Cx} : CallR X (.builtin "len") (rLenS X.K) := call_len_seq
theorem call_listS {X : Cx} : CallR X (.type "list") (rListS X.K) := call_list_of
theorem call_tupS {X : Cx} : CallR X (.type "tuple") (rTupS X.K) := call_tuple_of
theorem ed_lenT (h : ED W te Γ (.tup ds)) : ED W (tCB (rLenS K) (tCons te tNil)) Γ (.int ds.length) := ed_cb (ea_cons h an_nil) fun H vs hi rr Q q => by
  cases rr with
  | cons a b =>
    cases b
    cases a with
    | tup e l =>
      refine ⟨_, _, rfl, .inr (.of e), q _ _ H (Xt.refl hi) (.int _) ?_⟩
      rw [l.length]
theorem ed_lenL (h : ER W te Γ ds) : ED W (tCB (rLenS K) (tCons te tNil)) Γ (.int ds.length) := dn_cbL h fun H p xs hi e r Q q => by
  refine ⟨_, _, rfl, .inl (.of e), q _ _ H (Xt.refl hi) (.int _) ?_⟩
  rw [r.length]
theorem el_listT (h : ED W te Γ (.tup ds)) : EL W (tCB (rListS K) (tCons te tNil)) Γ ds := el_cb (ea_cons h an_nil) fun H vs hi rr Q q => by
  cases rr with
  | cons a b =>
    cases b
    cases a with
    | tup e l =>
      rename_i p0 xs0
      refine ⟨_, _, rfl, .inr (.of e), fun n hn => ?_⟩
      have x : Xt W H (upd H n (.lst xs0)) := Xt.new hi hn
      exact q _ _ _ _ hn x upd_same (l.mono (x.tk hi)) rfl
theorem dn_tupL (h : Ln W te Γ A) (k : ∀ ys, A ys → P (.tup ys)) : Dn W (tCB (rTupS K) (tCons te tNil)) Γ P := fun B σ H s Q q =>
  h B σ H s _ fun p xs es H1 n x e rr a => by
    refine ⟨_, _, rfl, .inl ⟨.of e, fun l hl => ?_⟩⟩
    have x2 : Xt W H1 (upd H1 l (.tup xs)) := Xt.new x.2 hl
    exact q _ _ _ (x.trans x2) (.tup upd_same (rr.mono (x2.tk x.2))) (k es a)
theorem ed_tupR (h : ER W te Γ ds) : ED W (tCB (rTupS K) (tCons te tNil)) Γ (.tup ds) := dn_cbL h fun H p xs hi e r Q q => by
  refine ⟨_, _, rfl, .inl ⟨.of e, fun l hl => ?_⟩⟩
  have x : Xt W H (upd H l (.tup xs)) := Xt.new hi hl
  exact q _ _ _ x (.tup upd_same (r.mono (x.tk hi))) rfl
theorem ed_tupT (h : ED W te Γ (.tup ds)) : ED W (tCB (rTupS K) (tCons te tNil)) Γ (.tup ds) := ed_cb (ea_cons h an_nil) fun H vs hi rr Q q => by
  cases rr with
  | cons a b =>
    cases b
    cases a with
    | tup e l => exact ⟨_, _, rfl, .inr ⟨.of e, q _ _ H (Xt.refl hi) (.tup e l) rfl⟩⟩
/-- a def of the text, by its promise -/
def SD (W : Wd) (sp : Sp) (E : XK) (ds : List D) (P : D → Prop) : Prop := CD W (fun vs H Q => sp vs H Q E) ds P
def SL (W : Wd) (sp : Sp) (E : XK) (ds : List D) (P : List D → Prop) : Prop := CL W (fun vs H Q => sp vs H Q E) ds P
theorem dn_call {sp : Sp} {E : XK} {t : TA} (h : An W t Γ A) (k : ∀ ys, A ys → SD W sp E ys P) : Dn W (tCall sp [] E t) Γ P := fun B σ H s Q q => h B σ H s _ fun vs ys H' x rr a => by
  show sp (vs ++ []) H' Q E
  rw [List.append_nil]
  exact k ys a H' vs x.2 rr Q fun w z H2 x2 r2 p => q w z H2 (x.trans x2) r2 p
theorem ed_call {sp : Sp} {E : XK} {t : TA} (h : EA W t Γ ds) (k : SD W sp E ds P) : Dn W (tCall sp [] E t) Γ P := dn_call h fun ys a => a ▸ k
theorem el_call {sp : Sp} {E : XK} {t : TA} (h : EA W t Γ ds) (k : SL W sp E ds A) : Ln W (tCall sp [] E t) Γ A := fun B σ H s Q q => h B σ H s _ fun vs ys H' x rr a => by
  subst a
  show sp (vs ++ []) H' Q E
  rw [List.append_nil]
  exact k H' vs x.2 rr Q fun p xs es H2 n x2 e r2 a => q p xs es H2 (x.free s.i n) (x.trans x2) e r2 a
/-- a def over data in a world (of the kind W i), that changes nothing else -/
def spX {ι : Type} (W : ι → Wd) (ok : ι → List D → Prop) (P : List D → D → Prop) : Sp := fun vs H Q _ => ∃ i ds, RpL H vs ds ∧ (W i).I H ∧ ok i ds ∧ ∀ v y H', Xt (W i) H H' → Rp H' v y → P ds y → Q v H'
def spXL {ι : Type} (W : ι → Wd) (ok : ι → List D → Prop) (P : List D → List D → Prop) : Sp := fun vs H Q _ => ∃ i ds, RpL H vs ds ∧ (W i).I H ∧ ok i ds ∧ ∀ p xs y H', H p = none → Xt (W i) H H' → H' p = some (.lst xs) → RpL H' xs y → P ds y → Q (.ref p) H'
theorem sd_X {ι : Type} {W : ι → Wd} {ok : ι → List D → Prop} {P : List D → D → Prop} {E : XK} {i : ι} (h : ok i ds) : SD (W i) (spX W ok P) E ds (P ds) := fun H vs hi rr Q q =>
  ⟨i, ds, rr, hi, h, fun v y H' x r p => q v y H' x r p⟩
theorem sl_X {ι : Type} {W : ι → Wd} {ok : ι → List D → Prop} {P : List D → List D → Prop} {E : XK} {i : ι} (h : ok i ds) : SL (W i) (spXL W ok P) E ds (P ds) := fun H vs hi rr Q q =>
  ⟨i, ds, rr, hi, h, fun p xs y H' n x e r k => q p xs y H' n x e r k⟩
/-- a def over data, that changes nothing -/
def spF (ok : List D → Prop) (f : List D → D) : Sp := fun vs H Q _ => ∃ ds, RpL H vs ds ∧ ok ds ∧ ∀ v H', Same H H' → Rp H' v (f ds) → Q v H'
/-- .. that hands back a new list -/
def spL (ok : List D → Prop) (f : List D → List D) : Sp := fun vs H Q _ => ∃ ds, RpL H vs ds ∧ ok ds ∧ ∀ p xs H', H p = none → Same H H' → H' p = some (.lst xs) → RpL H' xs (f ds) → Q (.ref p) H'
/-- a def over data, told by a relation -/
def spG (R : List D → D → Prop) : Sp := fun vs H Q _ => ∃ ds y, RpL H vs ds ∧ R ds y ∧ ∀ v H', Same H H' → Rp H' v y → Q v H'
def spGL (R : List D → List D → Prop) : Sp := fun vs H Q _ => ∃ ds y, RpL H vs ds ∧ R ds y ∧ ∀ p xs H', H p = none → Same H H' → H' p = some (.lst xs) → RpL H' xs y → Q (.ref p) H'
theorem sd_G {R : List D → D → Prop} {E : XK} (h : R ds y) : SD W (spG R) E ds (fun z => z = y) := fun H vs hi rr Q q =>
  ⟨ds, y, rr, h, fun v H' s r => q v _ H' (Xt.ofSame hi s) r rfl⟩
theorem sl_G {R : List D → List D → Prop} {E : XK} (h : R ds es) : SL W (spGL R) E ds (fun z => z = es) := fun H vs hi rr Q q =>
  ⟨ds, es, rr, h, fun p xs H' n s e r => q p xs _ H' n (Xt.ofSame hi s) e r rfl⟩
theorem ed_G {R : List D → D → Prop} {E : XK} {t : TA} (h : EA W t Γ ds) (k : R ds y) : ED W (tCall (spG R) [] E t) Γ y := ed_call h (sd_G k)
theorem el_G {R : List D → List D → Prop} {E : XK} {t : TA} (h : EA W t Γ ds) (k : R ds es) : EL W (tCall (spGL R) [] E t) Γ es := el_call h (sl_G k)
theorem sd_F {ok : List D → Prop} {f : List D → D} {E : XK} (h : ok ds) : SD W (spF ok f) E ds (fun y => y = f ds) := fun H vs hi rr Q q =>
  ⟨ds, rr, h, fun v H' s r => q v _ H' (Xt.ofSame hi s) r rfl⟩
theorem sl_L {ok : List D → Prop} {f : List D → List D} {E : XK} (h : ok ds) : SL W (spL ok f) E ds (fun y => y = f ds) := fun H vs hi rr Q q =>
  ⟨ds, rr, h, fun p xs H' n s e r => q p xs _ H' n (Xt.ofSame hi s) e r rfl⟩
end
end Ly

set_option Elab.async false
set_option maxRecDepth 100000
set_option linter.unusedVariables false
namespace Ly
open PySem L2
theorem Xt.fr {W : Wd} {B H : Hp} (h : Xt W B H) {p : Addr} (e : H p = none) : B p = none := by
  cases q : B p with
  | none => rfl
  | some o =>
    have m : ¬ W.M p := fun m => W.there H p h.2 m e
    rw [h.1 p o q m] at e
    cases e
/-! ### what is walked -/
structure Jok (W : Wd) (J : It) (B : Hp) (ds : List D) : Prop where
  go : ∀ i H, Xt W B H → i < ds.length → J.go i H
  yld : ∀ i H x H', Xt W B H → J.yld i H x H' → ∀ d, ds[i]? = some d → Rp H' x d ∧ Xt W H H'
  stop : ∀ i H, Xt W B H → ds.length ≤ i → J.stop i H
/-- the iterable gives ds: B, the heap as it is at the loop's start, but for own lists -/
def WalkD (W : Wd) (wi : TI) (Γ : List AV) (ds : List D) : Prop := ∀ (B : Hp) (σ : L2.St) (H : Hp), Sl W B Γ σ H → ∀ R : It → Hp → Prop,
  (∀ J H1, Xt W H H1 → (∀ B1, W.I B1 → Tk H1 B1 → (∀ p, H p = none → B1 p = H1 p) → Jok W J B1 ds) → R J H1) → wi σ H R
section
variable {W : Wd} {Γ : List AV} {te : TE} {ds : List D} {K : PySem.W.Frag} {ta : TA} {x y : D}
theorem jok_tup {B : Hp} {a : Addr} {xs : List V} (i0 : W.I B) (e : B a = some (.tup xs)) (l : RpL B xs ds) : Jok W (Itt K a) B ds where
  go := fun i H x h => by
    have e' := x.tk i0 _ _ e
    obtain ⟨v, a, _⟩ := l.get (List.getElem?_eq_getElem h)
    exact ⟨xs, v, .of e', a⟩
  yld := fun i H v H' x h d hd => by
    obtain ⟨rfl, h⟩ := h
    have e' := x.tk i0 _ _ e
    obtain ⟨u, a, b⟩ := l.get hd
    have := h xs (.of e')
    rw [a] at this
    cases this
    exact ⟨b.mono (x.tk i0), Xt.refl x.2⟩
  stop := fun i H x h => ⟨xs, .of (x.tk i0 _ _ e), by rw [l.length]; exact h⟩
theorem jok_lst {B : Hp} {a : Addr} {xs : List V} (i0 : W.I B) (e : B a = some (.lst xs)) (hm : ¬ W.M a) (l : RpL B xs ds) : Jok W (Itl K a) B ds where
  go := fun i H x h => by
    have e' := x.1 _ _ e hm
    obtain ⟨v, a, _⟩ := l.get (List.getElem?_eq_getElem h)
    exact ⟨xs, v, .of e', a⟩
  yld := fun i H v H' x h d hd => by
    obtain ⟨rfl, h⟩ := h
    have e' := x.1 _ _ e hm
    obtain ⟨u, a, b⟩ := l.get hd
    have := h xs (.of e')
    rw [a] at this
    cases this
    exact ⟨b.mono (x.tk i0), Xt.refl x.2⟩
  stop := fun i H x h => ⟨xs, .of (x.1 _ _ e hm), by rw [l.length]; exact h⟩
/-- lo, lo + 1, .., n of them -/
def rangeD (lo : Int) (n : Nat) : List D := (List.range n).map fun (i : Nat) => D.int (lo + (i : Int))
theorem rangeD_get {lo : Int} {n i : Nat} {d : D} (h : (rangeD lo n)[i]? = some d) : i < n ∧ d = .int (lo + (i : Int)) := by
  unfold rangeD at h
  rw [List.getElem?_map] at h
  by_cases q : i < n
  · rw [List.getElem?_range q] at h
    exact ⟨q, (Option.some.inj h).symm⟩
  · rw [List.getElem?_eq_none_iff.mpr (by simp; omega)] at h
    cases h
theorem jok_rng {B : Hp} {lo : Int} {n : Nat} : Jok W (Itr lo n) B (rangeD lo n) where
  go := fun i H x h => by
    show i < n
    simpa [rangeD] using h
  yld := fun i H v H' x h d hd => by
    obtain ⟨rfl, rfl⟩ := h
    rw [(rangeD_get hd).2]
    exact ⟨.int _, Xt.refl x.2⟩
  stop := fun i H x h => by
    show n ≤ i
    simpa [rangeD] using h
theorem wd_tup (h : ED W te Γ (.tup ds)) : WalkD W (iTup K te) Γ ds := fun B σ H s R q => h B σ H s _ fun v y H1 x r e => by
  subst e
  cases r with
  | tup e l =>
    refine ⟨_, rfl, ⟨_, .of e⟩, q _ H1 x fun B1 i1 tk _ => jok_tup i1 (tk _ _ e) (l.mono tk)⟩
theorem wd_lst (h : EL W te Γ ds) : WalkD W (iList K te) Γ ds := fun B σ H s R q => h B σ H s _ fun p xs es H1 n x e l a => by
  subst a
  refine ⟨_, rfl, ⟨_, .of e⟩, q _ H1 x fun B1 i1 tk fr => jok_lst i1 ((fr p n).trans e) (notM s.i n) (l.mono tk)⟩
theorem wd_rng1 {j : Int} (h : EA W ta Γ [.int j]) (h1 : -(2 ^ 62) ≤ j) (h2 : j < 2 ^ 62) : WalkD W (iRng1 ta) Γ (rangeD 0 j.toNat) := fun B σ H s R q => h B σ H s _ fun vs ys H1 x r e => by
  subst e
  cases r with
  | cons a b =>
    cases b; cases a
    exact ⟨j, rfl, h1, h2, q _ H1 x fun B1 i1 tk fr => jok_rng⟩
theorem wd_rng2 {i j : Int} (h : EA W ta Γ [.int i, .int j]) (h1 : -(2 ^ 62) ≤ i ∧ i < 2 ^ 62 ∧ -(2 ^ 62) ≤ j ∧ j < 2 ^ 62) : WalkD W (iRng2 ta) Γ (rangeD i (j - i).toNat) := fun B σ H s R q => h B σ H s _ fun vs ys H1 x r e => by
  subst e
  cases r with
  | cons a b =>
    cases a
    cases b with
    | cons a b =>
      cases a; cases b
      exact ⟨i, j, rfl, h1, q _ H1 x fun B1 i1 tk fr => jok_rng⟩
/-! ### targets -/
def GD (W : Wd) (g : TG) (x : D) (Γ Γ' : List AV) (is : List Nat) : Prop := ∀ (B : Hp) (σ : L2.St) (H : Hp) (v : V), Sl W B Γ σ H → Rp H v x → ∀ Q : L2.St → Hp → Prop,
  (∀ σ', Sl W B Γ' σ' H → σ'.length = σ.length → (∀ j, j ∉ is → σ'[j]? = σ[j]?) → Q σ' H) → g v σ H Q
theorem gd_name {i : Nat} : GD W (gName i) x Γ (Γ.set i (.d x)) [i] := fun B σ H v s r Q q =>
  q _ (s.setd r i) (by simp) fun j hj => List.getElem?_set_ne (fun z => hj (by simp [z]))
theorem gd_tup2 {i j : Nat} : GD W (gTup K 2 (gCons (gName i) (gCons (gName j) gNil))) (.tup [x, y]) Γ ((Γ.set i (.d x)).set j (.d y)) [i, j] := fun B σ H v s r Q q => by
  cases r with
  | tup e l =>
    cases l with
    | cons a l =>
      cases l with
      | cons b l =>
        cases l
        refine ⟨_, _, rfl, .of e, rfl, _, _, rfl, _, _, rfl, rfl, ?_⟩
        refine q _ ((s.setd a i).setd b j) (by simp) fun k hk => ?_
        rw [List.getElem?_set_ne (fun z => hk (by simp [z])), List.getElem?_set_ne (fun z => hk (by simp [z]))]
/-! ### comprehensions -/
def wipeG (Γ : List AV) : List Nat → List AV
  | [] => Γ
  | v :: vs => (wipeG Γ vs).set v .no
theorem Sl.wipe {B H : Hp} {σ : L2.St} (s : Sl W B Γ σ H) : ∀ vs : List Nat, Sl W B (wipeG Γ vs) (L2.wipe σ vs) H
  | [] => s
  | v :: vs => (Sl.wipe s vs).setn none v
theorem wipe_get (σ : L2.St) (j : Nat) : ∀ vs : List Nat, (L2.wipe σ vs)[j]? = if j ∈ vs ∧ j < σ.length then some none else σ[j]?
  | [] => by simp [L2.wipe]
  | v :: vs => by
    rw [L2.wipe, List.getElem?_set, wipe_get σ j vs, wipe_length]
    by_cases h : v = j
    · subst h
      by_cases h2 : v < σ.length <;> simp [h2]
    · have h' : ¬ j = v := fun z => h z.symm
      simp [h, h']
theorem wipe_of {σ σ' : L2.St} {is vs : List Nat} (hl : σ'.length = σ.length) (h : ∀ j, j ∉ is → σ'[j]? = (L2.wipe σ vs)[j]?) (hs : ∀ i ∈ is, i ∈ vs) : L2.wipe σ' vs = L2.wipe σ vs := by
  apply List.ext_getElem?
  intro j
  rw [wipe_get, wipe_get]
  by_cases m : j ∈ vs
  · by_cases q : j < σ.length
    · rw [if_pos ⟨m, by omega⟩, if_pos ⟨m, q⟩]
    · rw [if_neg (fun z => q (by omega)), if_neg (fun z => q z.2), List.getElem?_eq_none_iff.mpr (by omega), List.getElem?_eq_none_iff.mpr (by omega)]
  · rw [if_neg (fun z => m z.1), if_neg (fun z => m z.1), h j fun z => m (hs j z), wipe_get, if_neg (fun z => m z.1)]
theorem take_succ_get {α : Type} {l : List α} {i : Nat} {x : α} (h : l[i]? = some x) : l.take (i + 1) = l.take i ++ [x] := by
  rw [List.take_add_one, h]
  rfl
theorem paired_len {α β : Type} {F : α → β → Prop} : ∀ {l₁ : List α} {l₂ : List β}, Paired F l₁ l₂ → l₁.length = l₂.length
  | _, _, .nil => rfl
  | _, _, .cons _ t => by simp [paired_len t]
theorem ln_lc {α : Type} {l : List α} {enc : α → D} {wi : TI} {g : TG} {tt : TT} {vs is : List Nat} {G : α → List AV} {b : α → Bool} {Pe : α → D → Prop} (hw : WalkD W wi Γ (l.map enc)) (his : ∀ i ∈ is, i ∈ vs)
    (hg : ∀ x ∈ l, GD W g (enc x) (wipeG Γ vs) (G x) is) (ht : ∀ x ∈ l, ET W tt (G x) (b x)) (he : ∀ x ∈ l, b x = true → Dn W te (G x) (Pe x)) (hl : l.length ≤ 100000) :
    Ln W (tLc wi g tt te vs) Γ (fun es => Paired Pe (l.filter b) es) := fun B σ H s Q q => hw B σ H s _ fun J H1 x1 hJ => by
  intro Da hD
  have jok := hJ H1 x1.2 (fun _ _ e => e) fun _ _ => rfl
  have hm : ¬ W.M Da := notM x1.2 hD
  have s1 := s.mono x1
  have hlen : (l.map enc).length = l.length := List.length_map _
  let Pv : Nat → Hp → Prop := fun i H2 => i ≤ l.length ∧ Xt W H1 H2 ∧ ∃ acc es, H2 Da = some (.lst acc) ∧ RpL H2 acc es ∧ Paired Pe ((l.take i).filter b) es
  refine ⟨fun i m H2 => m = l.length - i ∧ Pv i H2, ⟨_, rfl, Nat.zero_le _, Xt.new x1.2 hD, [], [], upd_same, .nil, by simp; exact .nil⟩, ?_⟩
  rintro i m H2 ⟨rfl, hi, x2, acc, es, eD, rl, pr⟩
  by_cases h : i < l.length
  · refine .inr ⟨jok.go i H2 x2 (by rw [hlen]; exact h), fun H' => Pv (i + 1) H', fun H' p => ⟨_, by omega, rfl, p⟩, fun v H3 hy => ?_⟩
    have hd : l[i]? = some l[i] := List.getElem?_eq_getElem h
    have hmem : l[i] ∈ l := List.getElem_mem h
    obtain ⟨rv, x3⟩ := jok.yld i H2 v H3 x2 hy (enc l[i]) (by rw [List.getElem?_map, hd]; rfl)
    have x23 := x2.trans x3
    have s3 := (s1.mono x23).wipe vs
    refine hg _ hmem B _ H3 v s3 rv _ fun σ' s4 e1 e2 => ⟨wipe_of (by rw [e1, wipe_length]) e2 his, ?_⟩
    refine ht _ hmem B σ' H3 s4 _ fun c H4 x4 ec => ?_
    subst ec
    have tks : (l.take (i + 1)) = l.take i ++ [l[i]] := take_succ_get hd
    cases hb : b l[i] with
    | false =>
      refine iteF ⟨h, x23.trans x4, acc, es, x4.1 _ _ (x3.1 _ _ eD hm) hm, rl.mono ((x3.trans x4).tk x2.2), ?_⟩
      rw [tks, List.filter_append]
      simpa [hb] using pr
    | true =>
      refine iteT (he _ hmem hb B σ' H4 (s4.mono x4) _ fun u y H5 x5 r5 p5 => ?_)
      have x35 := x3.trans (x4.trans x5)
      have eD5 : H5 Da = some (.lst acc) := x35.1 _ _ eD hm
      have z : acc.length < sizeLine := by
        have h1 := paired_len pr
        have h2 := rl.length
        have h3 : ((l.take i).filter b).length ≤ i := Nat.le_trans (List.length_filter_le _ _) (by simp; omega)
        exact Nat.lt_of_lt_of_le (show acc.length < 100000 by omega) (by decide)
      refine ⟨acc, eD5, z, h, (x2.trans x35).put x35.2 hD hm (fun xs e => by rw [eD5] at e; cases e), acc ++ [u], es ++ [y], upd_same, ?_, ?_⟩
      · refine RpL.mono (fun a xs e => ?_) _ _ ((rl.mono (x35.tk x2.2)).snoc r5)
        rw [upd_ne]
        · exact e
        · intro zz; subst zz; rw [eD5] at e; cases e
      · rw [tks, List.filter_append]
        simp only [List.filter_cons, hb, List.filter_nil, if_true]
        exact Paired.snoc pr p5
  · have hi' : i = l.length := by omega
    refine .inl ⟨jok.stop i H2 x2 (by rw [hlen]; omega), ?_⟩
    subst hi'
    rw [List.take_length] at pr
    exact q Da acc es H2 (x1.free s.i hD) (x1.trans x2) eD rl pr
/-- two clauses, no tests -/
theorem tYes_of {σ : L2.St} {H : Hp} {Q : Bool → Hp → Prop} (h : Q true H) : tYes σ H Q := h
theorem wipeG_l {j : Nat} {ds : List D} : ∀ {vs : List Nat}, (wipeG Γ vs)[j]? = some (.l ds) → j ∉ vs ∧ Γ[j]? = some (.l ds)
  | [], h => ⟨by simp, h⟩
  | v :: vs, h => by
    rcases set_get (show ((wipeG Γ vs).set v .no)[j]? = some (.l ds) from h) with ⟨_, z⟩ | ⟨n, z⟩
    · cases z
    · obtain ⟨a, b⟩ := wipeG_l z
      exact ⟨by simp; exact ⟨fun e => n e.symm, a⟩, b⟩
theorem Sl.monoX {B H H' : Hp} {σ : L2.St} (s : Sl W B Γ σ H) (x : Xt W B H') (tk : Tk H H') (k : ∀ (i : Nat) (ds : List D) (p : Addr), Γ[i]? = some (.l ds) → σ[i]? = some (some (.ref p)) → H' p = H p) : Sl W B Γ σ H' where
  x := x
  len := s.len
  da := fun i x e => let ⟨v, a, b⟩ := s.da i x e; ⟨v, a, b.mono tk⟩
  li := fun i ds e => let ⟨p, xs, a, b, c, d, m⟩ := s.li i ds e; ⟨p, xs, a, (k i ds p e a).trans b, c.mono tk, d, m⟩
  ra := s.ra
  ne := s.ne
theorem ln_lc2 {α β : Type} {l : List α} {enc : α → D} {m : α → List β} {enc2 : β → D} {wi wi1 : TI} {g g1 : TG} {vs vs1 is is1 : List Nat} {G : α → List AV} {G1 : α → β → List AV} {Pe : α × β → D → Prop} (hw : WalkD W wi Γ (l.map enc)) (his : ∀ i ∈ is, i ∈ vs)
    (hg : ∀ x ∈ l, GD W g (enc x) (wipeG Γ vs) (G x) is) (hG : ∀ x ∈ l, ∀ (j : Nat) (ds : List D), (G x)[j]? = some (.l ds) → j ∉ is ∧ (wipeG Γ vs)[j]? = some (.l ds)) (hw1 : ∀ x ∈ l, WalkD W wi1 (G x) ((m x).map enc2)) (his1 : ∀ i ∈ is1, i ∈ vs1) (hg1 : ∀ x ∈ l, ∀ y ∈ m x, GD W g1 (enc2 y) (wipeG (G x) vs1) (G1 x y) is1)
    (he : ∀ x ∈ l, ∀ y ∈ m x, Dn W te (G1 x y) (Pe (x, y))) (hl : (l.flatMap fun x => (m x).map fun y => (x, y)).length ≤ 100000) :
    Ln W (tLc2 wi g tYes wi1 g1 tYes te vs vs1) Γ (fun es => Paired Pe (l.flatMap fun x => (m x).map fun y => (x, y)) es) := fun B σ H s Q q => hw B σ H s _ fun J H1 x1 hJ => by
  intro Da hD
  have jok := hJ H1 x1.2 (fun _ _ e => e) fun _ _ => rfl
  have hm : ¬ W.M Da := notM x1.2 hD
  have s1 := s.mono x1
  have hlen : (l.map enc).length = l.length := List.length_map _
  let Pv : List (α × β) → Hp → Prop := fun done H2 => Xt W H1 H2 ∧ ∃ acc es, H2 Da = some (.lst acc) ∧ RpL H2 acc es ∧ Paired Pe done es
  let f : α → List (α × β) := fun x => (m x).map fun y => (x, y)
  refine ⟨fun i k H2 => k = l.length - i ∧ i ≤ l.length ∧ Pv ((l.take i).flatMap f) H2, ⟨_, rfl, Nat.zero_le _, Xt.new x1.2 hD, [], [], upd_same, .nil, by simp; exact .nil⟩, ?_⟩
  rintro i k H2 ⟨rfl, hi, x2, acc, es, eD, rl, pr⟩
  by_cases h : i < l.length
  · refine .inr ⟨jok.go i H2 x2 (by rw [hlen]; exact h), fun H' => Pv ((l.take (i + 1)).flatMap f) H', fun H' p => ⟨_, by omega, rfl, h, p⟩, fun v H3 hy => ?_⟩
    have hd : l[i]? = some l[i] := List.getElem?_eq_getElem h
    have hmem : l[i] ∈ l := List.getElem_mem h
    generalize hX : l[i] = X at hd hmem
    obtain ⟨rv, x3⟩ := jok.yld i H2 v H3 x2 hy (enc X) (by rw [List.getElem?_map, hd]; rfl)
    have x23 := x2.trans x3
    have s3 := (s1.mono x23).wipe vs
    have tks : (l.take (i + 1)).flatMap f = (l.take i).flatMap f ++ f X := by rw [take_succ_get hd, List.flatMap_append]; simp
    refine hg _ hmem B _ H3 v s3 rv _ fun σ' s4 e1 e2 => ⟨wipe_of (by rw [e1, wipe_length]) e2 his, ?_⟩
    refine tYes_of ?_
    rw [if_pos rfl]
    refine hw1 _ hmem B σ' H3 s4 _ fun J1 H4 x4 hJ1 => ?_
    have eD4 : H4 Da = some (.lst acc) := x4.1 _ _ (x3.1 _ _ eD hm) hm
    let B1 : Hp := fun a => if a = Da then none else H4 a
    have hB1 : ∀ a, a ≠ Da → B1 a = H4 a := fun a h => if_neg h
    have hB1D : B1 Da = none := if_pos rfl
    have tkB : Tk H4 B1 := fun a xs e => by
      rw [hB1 a (fun zz => by subst zz; rw [eD4] at e; cases e)]
      exact e
    have iB : W.I B1 := W.stable H4 B1 (fun a ma => hB1 a fun zz => hm (zz ▸ ma)) tkB x4.2
    have jok1 := hJ1 B1 iB tkB fun p hp => hB1 p fun zz => by
      subst zz
      rw [x3.1 _ _ eD hm] at hp
      cases hp
    have xB4 : Xt W B1 H4 := ⟨fun a o e ma => by
      by_cases zz : a = Da
      · subst zz; rw [hB1D] at e; cases e
      · rw [← hB1 a zz]; exact e, x4.2⟩
    have hlen1 : ((m X).map enc2).length = (m X).length := List.length_map _
    have s5 := s4.mono x4
    refine ⟨fun j k H5 => k = (m X).length - j ∧ j ≤ (m X).length ∧ Xt W B1 H5 ∧ Pv ((l.take i).flatMap f ++ ((m X).take j).map fun y => (X, y)) H5, ⟨_, rfl, Nat.zero_le _, xB4, x23.trans x4, acc, es, eD4, rl.mono ((x3.trans x4).tk x2.2), by simpa using pr⟩, ?_⟩
    rintro j k H5 ⟨rfl, hj, x45, x15, acc5, es5, eD5, rl5, pr5⟩
    by_cases hjl : j < (m X).length
    · refine .inr ⟨jok1.go j H5 x45 (by rw [hlen1]; exact hjl), fun H' => j + 1 ≤ (m X).length ∧ Xt W B1 H' ∧ Pv ((l.take i).flatMap f ++ ((m X).take (j + 1)).map fun y => (X, y)) H', fun H' p => ⟨_, by omega, rfl, p⟩, fun v1 H6 hy1 => ?_⟩
      have hd1 : (m X)[j]? = some (m X)[j] := List.getElem?_eq_getElem hjl
      have hmem1 : (m X)[j] ∈ m X := List.getElem_mem hjl
      generalize (m X)[j] = Y at hd1 hmem1
      obtain ⟨rv1, x6⟩ := jok1.yld j H5 v1 H6 x45 hy1 (enc2 Y) (by rw [List.getElem?_map, hd1]; rfl)
      have x56 := x45.trans x6
      have tk46 : Tk H4 H6 := fun a xs e => x56.1 a _ (tkB a xs e) fun ma => W.notup H4 a x4.2 ma xs e
      have s6 := (s5.monoX (s1.x.trans (x15.trans x6)) tk46 fun i ds p e1' e2' => by
        obtain ⟨q1, q2⟩ := hG _ hmem i ds e1'
        obtain ⟨q3, q4⟩ := wipeG_l q2
        obtain ⟨p', ys, a1, b1, c1, d1, n1⟩ := s5.li i ds e1'
        rw [e2'] at a1; cases a1
        have hs : σ[i]? = some (some (.ref p)) := by
          rw [e2 i q1, wipe_get, if_neg (fun zz => q3 zz.1)] at e2'
          exact e2'
        obtain ⟨p', ys', a2, b2, _⟩ := s1.li i ds q4
        rw [hs] at a2; cases a2
        have hpD : p ≠ Da := fun zz => by subst zz; rw [hD] at b2; cases b2
        rw [b1, x56.1 p _ ((hB1 p hpD).trans b1) n1]).wipe vs1
      refine hg1 _ hmem _ hmem1 B _ H6 v1 s6 rv1 _ fun σ2 s7 g1 g2 => ⟨wipe_of (by rw [g1, wipe_length]) g2 his1, ?_⟩
      refine tYes_of ?_
      rw [if_pos rfl]
      refine he _ hmem _ hmem1 B σ2 H6 s7 _ fun u y H7 x7 r7 p7 => ?_
      have x57 := x6.trans x7
      have eD7 : H7 Da = some (.lst acc5) := x57.1 _ _ eD5 hm
      have tks1 : ((m X).take (j + 1)).map (fun y => (X, y)) = ((m X).take j).map (fun y => (X, y)) ++ [(X, Y)] := by rw [take_succ_get hd1, List.map_append]; rfl
      have z : acc5.length < sizeLine := by
        have h1 := paired_len pr5
        have h2 := rl5.length
        have h3 : ((l.take i).flatMap f ++ ((m X).take j).map fun y => (X, y)).length < (l.flatMap f).length := by
          have e1 : l.flatMap f = (l.take i).flatMap f ++ (f X ++ (l.drop (i + 1)).flatMap f) := by
            conv => lhs; rw [← List.take_append_drop i l, List.flatMap_append, List.drop_eq_getElem_cons h, hX]
            rw [List.flatMap_cons]
          rw [e1, List.length_append, List.length_append, List.length_append]
          have e2 : (f X).length = (m X).length := List.length_map _
          have e3 : (((m X).take j).map fun y => (X, y)).length = j := by rw [List.length_map, List.length_take]; omega
          omega
        have h4 : (l.flatMap f).length ≤ 100000 := hl
        exact Nat.lt_of_lt_of_le (show acc5.length < 100000 by omega) (by decide)
      have tk7 : Tk H7 (upd H7 Da (.lst (acc5 ++ [u]))) := fun a xs e => by
        rw [upd_ne]
        · exact e
        · intro zz; subst zz; rw [eD7] at e; cases e
      have pD : ∀ {B0 : Hp}, Xt W B0 H7 → B0 Da = none → Xt W B0 (upd H7 Da (.lst (acc5 ++ [u]))) := fun x hb => x.put x57.2 hb hm (fun xs e => by rw [eD7] at e; cases e)
      refine ⟨acc5, eD7, z, hjl, ?_, pD (x15.trans x57) hD, acc5 ++ [u], es5 ++ [y], upd_same, RpL.mono tk7 _ _ ((rl5.mono (x57.tk x45.2)).snoc r7), ?_⟩
      · exact pD (x45.trans x57) hB1D
      · rw [tks1, ← List.append_assoc]
        exact Paired.snoc pr5 p7
    · have hj' : j = (m X).length := by omega
      refine .inl ⟨jok1.stop j H5 x45 (by rw [hlen1]; omega), ?_⟩
      subst hj'
      rw [List.take_length] at pr5
      show Pv ((l.take (i + 1)).flatMap f) H5
      rw [tks]
      exact ⟨x15, acc5, es5, eD5, rl5, pr5⟩
  · have hi' : i = l.length := by omega
    refine .inl ⟨jok.stop i H2 x2 (by rw [hlen]; omega), ?_⟩
    subst hi'
    rw [List.take_length] at pr
    exact q Da acc es H2 (x1.free s.i hD) (x1.trans x2) eD rl pr
theorem paired_map {α β : Type} {f : α → β} : ∀ {l₁ : List α} {l₂ : List β}, Paired (fun x y => y = f x) l₁ l₂ → l₂ = l₁.map f
  | _, _, .nil => rfl
  | _, _, .cons h t => by rw [h, paired_map t]; rfl
theorem el_lc {α : Type} {l : List α} {enc : α → D} {wi : TI} {g : TG} {tt : TT} {vs is : List Nat} {G : α → List AV} {b : α → Bool} {f : α → D} (hw : WalkD W wi Γ (l.map enc)) (his : ∀ i ∈ is, i ∈ vs)
    (hg : ∀ x ∈ l, GD W g (enc x) (wipeG Γ vs) (G x) is) (ht : ∀ x ∈ l, ET W tt (G x) (b x)) (he : ∀ x ∈ l, b x = true → ED W te (G x) (f x)) (hl : l.length ≤ 100000) :
    EL W (tLc wi g tt te vs) Γ ((l.filter b).map f) := fun B σ H s Q q => ln_lc (Pe := fun x y => y = f x) hw his hg ht he hl B σ H s Q fun p xs es H' n x e r a => q p xs es H' n x e r (paired_map a)
theorem et_yes : ET W tYes Γ true := fun B σ H s Q q => q _ H (Xt.refl s.i) rfl
/-- one name, no test -/
theorem el_map {α : Type} {l : List α} {enc : α → D} {wi : TI} {i : Nat} {f : α → D} (hw : WalkD W wi Γ (l.map enc)) (he : ∀ x ∈ l, ED W te ((Γ.set i .no).set i (.d (enc x))) (f x)) (hl : l.length ≤ 100000) : EL W (tLc wi (gName i) tYes te [i]) Γ (l.map f) := by
  refine (el_lc (G := fun x => (Γ.set i .no).set i (.d (enc x))) (b := fun _ => true) (is := [i]) hw (fun _ h => h) (fun _ _ => gd_name) (fun _ _ => et_yes) (fun x h _ => he x h) hl).to ?_
  rw [List.filter_eq_self.mpr (fun _ _ => rfl)]
theorem ln_map {α : Type} {l : List α} {enc : α → D} {wi : TI} {i : Nat} {Pe : α → D → Prop} (hw : WalkD W wi Γ (l.map enc)) (he : ∀ x ∈ l, Dn W te ((Γ.set i .no).set i (.d (enc x))) (Pe x)) (hl : l.length ≤ 100000) : Ln W (tLc wi (gName i) tYes te [i]) Γ (fun es => Paired Pe l es) := by
  have h := ln_lc (G := fun x => (Γ.set i .no).set i (.d (enc x))) (b := fun _ => true) (is := [i]) (vs := [i]) (Pe := Pe) hw (fun _ h => h) (fun _ _ => gd_name) (fun _ _ => et_yes) (fun x h _ => he x h) hl
  rw [List.filter_eq_self.mpr (fun _ _ => rfl)] at h
  exact h
theorem el_fil {α : Type} {l : List α} {enc : α → D} {wi : TI} {i : Nat} {tt : TT} {b : α → Bool} {f : α → D} (hw : WalkD W wi Γ (l.map enc)) (ht : ∀ x ∈ l, ET W tt ((Γ.set i .no).set i (.d (enc x))) (b x)) (he : ∀ x ∈ l, b x = true → ED W te ((Γ.set i .no).set i (.d (enc x))) (f x)) (hl : l.length ≤ 100000) : EL W (tLc wi (gName i) tt te [i]) Γ ((l.filter b).map f) :=
  el_lc (G := fun x => (Γ.set i .no).set i (.d (enc x))) (b := b) (is := [i]) hw (fun _ h => h) (fun _ _ => gd_name) ht he hl
/-- two names, no tests -/
theorem el_map2 {α β : Type} {l : List α} {enc : α → D} {m : α → List β} {enc2 : β → D} {wi wi1 : TI} {i j : Nat} {f : α → β → D} (hij : i ≠ j) (hw : WalkD W wi Γ (l.map enc)) (hw1 : ∀ x ∈ l, WalkD W wi1 ((wipeG Γ [i, j]).set i (.d (enc x))) ((m x).map enc2))
    (he : ∀ x ∈ l, ∀ y ∈ m x, ED W te ((wipeG ((wipeG Γ [i, j]).set i (.d (enc x))) [j]).set j (.d (enc2 y))) (f x y)) (hl : (l.flatMap fun x => (m x).map fun y => (x, y)).length ≤ 100000) :
    EL W (tLc2 wi (gName i) tYes wi1 (gName j) tYes te [i, j] [j]) Γ (l.flatMap fun x => (m x).map (f x)) := fun B σ H s Q q =>
  ln_lc2 (Pe := fun p y => y = f p.1 p.2) (is := [i]) (is1 := [j]) hw (by simp) (fun _ _ => gd_name) (fun x _ k ds e => by
    rcases set_get e with ⟨_, z⟩ | ⟨n, z⟩
    · cases z
    · exact ⟨by simp; exact fun e => n e.symm, z⟩) hw1 (by simp) (fun _ _ _ _ => gd_name) he hl B σ H s Q fun p xs es H' n x e r a => q p xs es H' n x e r (by
    rw [paired_map a, List.map_flatMap]
    congr 1
    funext x
    rw [List.map_map]
    rfl)
end
/-! ### statements -/
inductive Out where
  | nx (Γ : List AV) | rt (x : D) | rl (ds : List D) | bk (Γ : List AV) | ct (Γ : List AV)
structure Holds (W : Wd) (B : Hp) (O : Out → Prop) (D : Ends) : Prop where
  nx : ∀ Γ' σ' H', O (.nx Γ') → Sl W B Γ' σ' H' → D.nx σ' H'
  rt : ∀ x v H', O (.rt x) → Xt W B H' → Rp H' v x → D.rt v H'
  rl : ∀ ds p xs H', O (.rl ds) → Xt W B H' → B p = none → H' p = some (.lst xs) → RpL H' xs ds → D.rt (.ref p) H'
  bk : ∀ Γ' σ' H', O (.bk Γ') → Sl W B Γ' σ' H' → D.bk σ' H'
  ct : ∀ Γ' σ' H', O (.ct Γ') → Sl W B Γ' σ' H' → D.ct σ' H'
def SV (W : Wd) (ts : TS) (Γ : List AV) (O : Out → Prop) : Prop := ∀ (B : Hp) (σ : L2.St) (H : Hp), Sl W B Γ σ H → ∀ D : Ends, Holds W B O D → ts D σ H
section
variable {W : Wd} {Γ : List AV} {te tb : TE} {ds es : List D} {K : PySem.W.Frag} {ta : TA} {x y : D} {O : Out → Prop} {t u : TS} {P : D → Prop} {A : List D → Prop} {tc : TT}
theorem sv_seq {O1 : Out → Prop} (h : SV W t Γ O1) (h2 : ∀ Γ', O1 (.nx Γ') → SV W u Γ' O) (hrt : ∀ x, O1 (.rt x) → O (.rt x)) (hrl : ∀ x, O1 (.rl x) → O (.rl x)) (hbk : ∀ x, O1 (.bk x) → O (.bk x)) (hct : ∀ x, O1 (.ct x) → O (.ct x)) : SV W (tSeq t u) Γ O := fun B σ H s D d =>
  h B σ H s _ ⟨fun Γ' σ' H' o s' => h2 Γ' o B σ' H' s' D d, fun x v H' o => d.rt x v H' (hrt x o), fun x v xs H' o => d.rl x v xs H' (hrl x o), fun x v H' o => d.bk x v H' (hbk x o), fun x v H' o => d.ct x v H' (hct x o)⟩
theorem sv_assoc {v : TS} (h : SV W (tSeq t (tSeq u v)) Γ O) : SV W (tSeq (tSeq t u) v) Γ O := h
theorem sv_skip (h : SV W u Γ O) : SV W (tSeq tNext u) Γ O := h
theorem sv_next (h : O (.nx Γ)) : SV W tNext Γ O := fun B σ H s D d => d.nx Γ σ H h s
theorem sv_break (h : O (.bk Γ)) : SV W tBreak Γ O := fun B σ H s D d => d.bk Γ σ H h s
theorem sv_cont (h : O (.ct Γ)) : SV W tCont Γ O := fun B σ H s D d => d.ct Γ σ H h s
/-- a statement at the end -/
theorem sv_end (h : SV W (tSeq t tNext) Γ O) : SV W t Γ O := h
theorem sv_setn {i : Nat} (h : Dn W te Γ P) (k : ∀ x, P x → SV W u (Γ.set i (.d x)) O) : SV W (tSeq (tAsg te (gName i)) u) Γ O := fun B σ H s D d =>
  h B σ H s _ fun v x H' x1 r p => k x p B _ H' ((s.mono x1).setd r i) D d
theorem sv_set {i : Nat} (h : ED W te Γ x) (k : SV W u (Γ.set i (.d x)) O) : SV W (tSeq (tAsg te (gName i)) u) Γ O := sv_setn h fun y e => e ▸ k
theorem sv_setL {i : Nat} (h : Ln W te Γ A) (k : ∀ ds, A ds → SV W u (Γ.set i (.l ds)) O) : SV W (tSeq (tAsg te (gName i)) u) Γ O := fun B σ H s D d =>
  h B σ H s _ fun p xs ds H' n x1 e r a => k ds a B _ H' ((s.mono x1).setl e r (Xt.fr s.x n) (notM s.i n) (fun j es e1 e2 => by
    obtain ⟨q, zs, a, b, _⟩ := s.li j es e1
    rw [e2] at a
    cases a
    rw [n] at b
    cases b) i) D d
end
end Ly

set_option Elab.async false
set_option maxRecDepth 100000
set_option linter.unusedVariables false
namespace Ly
open PySem L2
section
variable {W : Wd} {Γ Γ' : List AV} {te tb to ti : TE} {ds es : List D} {K : PySem.W.Frag} {ta : TA} {x y : D} {O : Out → Prop} {t u v : TS} {P : D → Prop} {A : List D → Prop} {tc : TT} {g : TG}
theorem sv_tgt {is : List Nat} (h : ED W te Γ x) (hg : GD W g x Γ Γ' is) (k : SV W u Γ' O) : SV W (tSeq (tAsg te g) u) Γ O := fun B σ H s D d =>
  h B σ H s _ fun v y H' x1 r p => by
    subst p
    exact hg B σ H' v (s.mono x1) r _ fun σ' s' _ _ => k B _ H' s' D d
theorem sv_ret (h : ED W te Γ x) (k : O (.rt x)) : SV W (tRet te) Γ O := fun B σ H s D d => h B σ H s _ fun v y H' x1 r p => d.rt x v H' k (s.x.trans x1) (p ▸ r)
theorem sv_retn (h : Dn W te Γ P) (k : ∀ x, P x → O (.rt x)) : SV W (tRet te) Γ O := fun B σ H s D d => h B σ H s _ fun v y H' x1 r p => d.rt y v H' (k y p) (s.x.trans x1) r
theorem sv_retL (h : EL W te Γ ds) (k : O (.rl ds)) : SV W (tRet te) Γ O := fun B σ H s D d => h B σ H s _ fun p xs es H' n x1 e r a => d.rl ds p xs H' k (s.x.trans x1) (Xt.fr s.x n) e (a ▸ r)
/-- an own list handed back -/
theorem sv_retV {i : Nat} (h : Γ[i]? = some (.l ds)) (k : O (.rl ds)) : SV W (tRet (tVar i)) Γ O := fun B σ H s D d => by
  obtain ⟨p, xs, a, b, c, e, m⟩ := s.li i ds h
  exact ⟨_, a, d.rl ds p xs H k s.x e b c⟩
theorem sv_done (h : SV W t Γ (fun o => O o ∧ ∀ Γ', o ≠ .nx Γ')) : SV W (tSeq t u) Γ O :=
  sv_seq h (fun Γ' o => absurd rfl (o.2 Γ')) (fun _ o => o.1) (fun _ o => o.1) (fun _ o => o.1) fun _ o => o.1
theorem sv_rets (h : ED W te Γ x) (k : O (.rt x)) : SV W (tSeq (tRet te) u) Γ O := sv_done (sv_ret h ⟨k, fun _ => nofun⟩)
theorem sv_retsL (h : EL W te Γ ds) (k : O (.rl ds)) : SV W (tSeq (tRet te) u) Γ O := sv_done (sv_retL h ⟨k, fun _ => nofun⟩)
theorem sv_retsn (h : Dn W te Γ P) (k : ∀ x, P x → O (.rt x)) : SV W (tSeq (tRet te) u) Γ O := sv_done (sv_retn h fun x p => ⟨k x p, fun _ => nofun⟩)
theorem sv_ifn {B1 : Bool → Prop} (h : Tn W tc Γ B1) (h1 : B1 true → SV W t Γ O) (h2 : B1 false → SV W u Γ O) : SV W (tIfS tc t u) Γ O := fun B σ H s D d => h B σ H s _ fun b H' x1 e => by
  cases b with
  | true => exact h1 e B σ H' (s.mono x1) D d
  | false => exact h2 e B σ H' (s.mono x1) D d
theorem sv_if {b : Bool} (h : ET W tc Γ b) (h1 : b = true → SV W t Γ O) (h2 : b = false → SV W u Γ O) : SV W (tIfS tc t u) Γ O := sv_ifn h (fun e => h1 e.symm) fun e => h2 e.symm
theorem sv_ifsn {B1 : Bool → Prop} (h : Tn W tc Γ B1) (h1 : B1 true → SV W (tSeq t v) Γ O) (h2 : B1 false → SV W (tSeq u v) Γ O) : SV W (tSeq (tIfS tc t u) v) Γ O := fun B σ H s D d => h B σ H s _ fun b H' x1 e => by
  cases b with
  | true => exact h1 e B σ H' (s.mono x1) D d
  | false => exact h2 e B σ H' (s.mono x1) D d
theorem sv_ifs {b : Bool} (h : ET W tc Γ b) (h1 : b = true → SV W (tSeq t v) Γ O) (h2 : b = false → SV W (tSeq u v) Γ O) : SV W (tSeq (tIfS tc t u) v) Γ O := sv_ifsn h (fun e => h1 e.symm) fun e => h2 e.symm
theorem sv_drop (h : Dn W te Γ P) (k : SV W u Γ O) : SV W (tSeq (tDrop te) u) Γ O := fun B σ H s D d => h B σ H s _ fun v y H' x1 r p => k B σ H' (s.mono x1) D d
theorem sv_aug {i : Nat} {f : Int → Int → Int} {a b : Int} (hi : Γ[i]? = some (.d (.int a))) (h : ED W te Γ (.int b)) (k : SV W u (Γ.set i (.d (.int (f a b)))) O) : SV W (tSeq (tAug i te (ipI f)) u) Γ O := fun B σ H s D d => by
  obtain ⟨v, e, r⟩ := s.da i _ hi
  cases r
  refine ⟨_, e, h B σ H s _ fun v y H' x1 r p => ?_⟩
  subst p
  cases r
  exact ⟨a, b, rfl, rfl, k B _ H' ((s.mono x1).setd (.int _) i) D d⟩
/-- an own list grows -/
theorem sv_appn {i : Nat} (hi : Γ[i]? = some (.l ds)) (h : Dn W te Γ P) (hl : ds.length < 100000) (k : ∀ x, P x → SV W u (Γ.set i (.l (ds ++ [x]))) O) : SV W (tSeq (tDrop (tBM K "list" rAppend (tVar i) (tCons te tNil))) u) Γ O := fun B σ H s D d => by
  obtain ⟨p, xs, a, b, c, e, m⟩ := s.li i ds hi
  refine ⟨_, a, .inl ⟨rfl, _, .of b⟩, h B σ H s _ fun v y H' x1 r py => ?_⟩
  refine ⟨p, xs, v, rfl, rfl, x1.1 _ _ b m, ?_, ?_⟩
  · rw [c.length]; exact Nat.lt_of_lt_of_le hl (by decide)
  · exact k y py B σ _ ((s.mono x1).upd hi a ((c.mono (x1.tk s.i)).snoc r)) D d
theorem sv_app {i : Nat} (hi : Γ[i]? = some (.l ds)) (h : ED W te Γ x) (hl : ds.length < 100000) (k : SV W u (Γ.set i (.l (ds ++ [x]))) O) : SV W (tSeq (tDrop (tBM K "list" rAppend (tVar i) (tCons te tNil))) u) Γ O := sv_appn hi h hl fun y e => e ▸ k
/-- xs[j] = e, an own list -/
theorem sv_setI {i j : Nat} (hi : Γ[i]? = some (.l ds)) (h : ED W te Γ x) (hj : ED W ti Γ (.int (j : Int))) (hl : j < ds.length) (k : SV W u (Γ.set i (.l (ds.set j x))) O) : SV W (tSeq (tAsg te (gSub (tVar i) ti rSetL)) u) Γ O := fun B σ H s D d =>
  h B σ H s _ fun v y H' x1 r py => by
    subst py
    obtain ⟨p, xs, a, b, c, e, m⟩ := s.li i ds hi
    refine ⟨_, a, hj B σ H' (s.mono x1) _ fun w z H2 x2 r2 pz => ?_⟩
    subst pz
    cases r2
    have x12 := x1.trans x2
    refine ⟨p, xs, (j : Int), j, rfl, rfl, x12.1 _ _ b m, ?_, ?_⟩
    · unfold ixN
      rw [c.length, if_pos (Int.natCast_nonneg _), if_pos (by exact_mod_cast hl)]
      simp
    · exact k B σ _ ((s.mono x12).upd hi a ((c.mono (x12.tk s.i)).set (r.mono (x2.tk x1.2)) j)) D d
/-- a, b = e1, e2 -/
theorem sv_parn {i j : Nat} (h : An W ta Γ A) (k : ∀ ys, A ys → ∃ x y, ys = [x, y] ∧ SV W u ((Γ.set i (.d x)).set j (.d y)) O) : SV W (tSeq (tPar i j ta) u) Γ O := fun B σ H s D d =>
  h B σ H s _ fun vs ys H' x1 r a => by
    obtain ⟨x, y, rfl, kk⟩ := k ys a
    cases r with
    | cons a b =>
      cases b with
      | cons b c =>
        cases c
        exact ⟨_, _, rfl, kk B _ H' (((s.mono x1).setd a i).setd b j) D d⟩
theorem sv_par {i j : Nat} (h : EA W ta Γ [x, y]) (k : SV W u ((Γ.set i (.d x)).set j (.d y)) O) : SV W (tSeq (tPar i j ta) u) Γ O := sv_parn h fun ys a => ⟨x, y, a, k⟩
/-! ### for -/
/-- what stands, but for own lists -/
noncomputable def lent (Γ : List AV) (σ : L2.St) (H : Hp) : Hp := fun a =>
  open Classical in if ∃ (i : Nat) (ds : List D), Γ[i]? = some (.l ds) ∧ σ[i]? = some (some (.ref a)) then none else H a
theorem lent_some {Γ : List AV} {σ : L2.St} {H : Hp} {a : Addr} {o : HO} (h : lent Γ σ H a = some o) : H a = some o := by
  unfold lent at h
  split at h
  · cases h
  · exact h
theorem lent_out {Γ : List AV} {σ : L2.St} {H : Hp} {a : Addr} (h : ∀ (i : Nat) (ds : List D), Γ[i]? = some (.l ds) → σ[i]? ≠ some (some (.ref a))) : lent Γ σ H a = H a := by
  unfold lent
  rw [if_neg]
  rintro ⟨i, ds, a, b⟩
  exact h i ds a b
theorem lent_in {Γ : List AV} {σ : L2.St} {H : Hp} {a : Addr} {i : Nat} {ds : List D} (h1 : Γ[i]? = some (.l ds)) (h2 : σ[i]? = some (some (.ref a))) : lent Γ σ H a = none := by
  unfold lent
  rw [if_pos ⟨i, ds, h1, h2⟩]
theorem Sl.lent_nt {B H : Hp} {σ : L2.St} (s : Sl W B Γ σ H) {a : Addr} {xs : List V} (e : H a = some (.tup xs)) : lent Γ σ H a = some (.tup xs) := by
  rw [lent_out, e]
  intro i ds h1 h2
  obtain ⟨p, ys, a1, b, _⟩ := s.li i ds h1
  rw [h2] at a1; cases a1
  rw [e] at b; cases b
theorem Sl.lentI {B H : Hp} {σ : L2.St} (s : Sl W B Γ σ H) : W.I (lent Γ σ H) := W.stable H _ (fun a m => lent_out fun i ds h1 h2 => by
    obtain ⟨p, ys, a1, b, c, d, n⟩ := s.li i ds h1
    rw [h2] at a1; cases a1
    exact n m) (fun a xs e => s.lent_nt e) s.i
theorem Sl.lentX {B H : Hp} {σ : L2.St} (s : Sl W B Γ σ H) : Xt W (lent Γ σ H) H := ⟨fun a o h m => lent_some h, s.i⟩
theorem Sl.lent {B H : Hp} {σ : L2.St} (s : Sl W B Γ σ H) : Sl W (lent Γ σ H) Γ σ H where
  x := s.lentX
  len := s.len
  da := s.da
  li := fun i ds e => let ⟨p, xs, a, b, c, d, m⟩ := s.li i ds e; ⟨p, xs, a, b, c, lent_in e a, m⟩
  ra := s.ra
  ne := s.ne
/-- back from what was lent -/
theorem Xt.unlent {B H H2 : Hp} {σ : L2.St} (s : Sl W B Γ σ H) (x : Xt W (Ly.lent Γ σ H) H2) : Xt W B H2 := by
  refine ⟨fun a o e m => x.1 a o ?_ m, x.2⟩
  rw [lent_out]
  · exact s.x.1 a o e m
  · intro i ds h1 h2
    obtain ⟨p, ys, a1, b, c, d, n⟩ := s.li i ds h1
    rw [h2] at a1; cases a1
    rw [e] at d; cases d
theorem Sl.unlent {B H H2 : Hp} {σ σ2 : L2.St} (s : Sl W B Γ σ H) (s2 : Sl W (Ly.lent Γ σ H) Γ' σ2 H2) : Sl W B Γ' σ2 H2 where
  x := Xt.unlent s s2.x
  len := s2.len
  da := s2.da
  li := fun i ds e => by
    obtain ⟨p, xs, a, b, c, d, m⟩ := s2.li i ds e
    refine ⟨p, xs, a, b, c, ?_, m⟩
    cases q : B p with
    | none => rfl
    | some o =>
      have h1 := s.x.1 p o q m
      have h2 : Ly.lent Γ σ H p = some o := by
        rw [lent_out]
        · exact h1
        · intro j es g1 g2
          obtain ⟨p', ys, a1, b1, c1, d1, n1⟩ := s.li j es g1
          rw [g2] at a1; cases a1
          rw [q] at d1; cases d1
      rw [d] at h2; cases h2
  ra := s2.ra
  ne := s2.ne
/-- what a turn may end in -/
def Turned (W : Wd) (u : TS) (G : List AV → Prop) (O : Out → Prop) : Out → Prop
  | .nx Γ' => G Γ'
  | .ct Γ' => G Γ'
  | .rt x => O (.rt x)
  | .rl x => O (.rl x)
  | .bk Γ' => SV W u Γ' O
/-- G: the slots ahead of the i-th turn -/
theorem sv_for {wi : TI} {g : TG} {tb : TS} {is : List Nat} (G : Nat → List AV → Prop) (hw : WalkD W wi Γ ds) (h0 : G 0 Γ)
    (hs : ∀ (i : Nat) (x : D) (Γ1 : List AV), ds[i]? = some x → G i Γ1 → ∃ Γ2, GD W g x Γ1 Γ2 is ∧ SV W tb Γ2 (Turned W u (G (i + 1)) O))
    (hd : ∀ Γ1, G ds.length Γ1 → SV W u Γ1 O) : SV W (tSeq (tFor wi g tb) u) Γ O := fun B σ H s D d => hw B σ H s _ fun J H1 x1 hJ => by
  have s1 := s.mono x1
  have jok := hJ (Ly.lent Γ σ H1) s1.lentI (fun a xs e => s1.lent_nt e) (fun p n => lent_out fun i ds h1 h2 => by
    obtain ⟨q, ys, a1, b, _⟩ := s.li i ds h1
    rw [h2] at a1; cases a1
    rw [n] at b; cases b)
  refine ⟨fun i m σ' H' => m = ds.length - i ∧ i ≤ ds.length ∧ ∃ Γ1, G i Γ1 ∧ Sl W (Ly.lent Γ σ H1) Γ1 σ' H', ⟨_, rfl, Nat.zero_le _, Γ, h0, s1.lent⟩, ?_⟩
  rintro i m σ2 H2 ⟨rfl, hi, Γ1, hG, s2⟩
  by_cases h : i < ds.length
  · refine .inr ⟨jok.go i H2 s2.x h, fun σ' H' => i + 1 ≤ ds.length ∧ ∃ Γ1, G (i + 1) Γ1 ∧ Sl W (Ly.lent Γ σ H1) Γ1 σ' H', fun σ' H' p => ⟨_, by omega, rfl, p⟩, fun v H3 hy => ?_⟩
    have hdx : ds[i]? = some ds[i] := List.getElem?_eq_getElem h
    obtain ⟨rv, x3⟩ := jok.yld i H2 v H3 s2.x hy _ hdx
    obtain ⟨Γ2, gd, sv⟩ := hs i _ Γ1 hdx hG
    refine gd _ σ2 H3 v (s2.mono x3) rv _ fun σ' s4 _ _ => ?_
    refine sv _ σ' H3 s4 _ ⟨fun Γ' σ5 H5 o s5 => ⟨h, Γ', o, s5⟩, fun x w H5 o x5 r5 => d.rt x w H5 o (Xt.unlent s1 x5) r5, fun es p xs H5 o x5 n5 e5 r5 => ?_, fun Γ' σ5 H5 o s5 => ?_, fun Γ' σ5 H5 o s5 => ⟨h, Γ', o, s5⟩⟩
    · refine d.rl es p xs H5 o (Xt.unlent s1 x5) ?_ e5 r5
      cases q : B p with
      | none => rfl
      | some o2 =>
        have m : ¬ W.M p := fun m => by
          have i1 := W.there _ p s1.lentI m
          exact i1 n5
        have h1 := s1.x.1 p o2 q m
        have h2 : Ly.lent Γ σ H1 p = some o2 := by
          rw [lent_out]
          · exact h1
          · intro j es g1 g2
            obtain ⟨p', ys, a1, b1, c1, d1, n1⟩ := s1.li j es g1
            rw [g2] at a1; cases a1
            rw [q] at d1; cases d1
        rw [n5] at h2; cases h2
    · exact o B σ5 H5 (s1.unlent s5) D d
  · have e : i = ds.length := by omega
    subst e
    exact .inl ⟨jok.stop _ H2 s2.x (Nat.le_refl _), hd Γ1 hG B σ2 H2 (s1.unlent s2) D d⟩
/-- one name; the slots ahead of the i-th turn are Gs i -/
theorem sv_for1 {wi : TI} {j : Nat} {tb : TS} (Gs : Nat → List AV) (hw : WalkD W wi Γ ds) (h0 : Gs 0 = Γ)
    (hs : ∀ (i : Nat) (x : D), ds[i]? = some x → SV W tb ((Gs i).set j (.d x)) (Turned W u (fun Γ' => Γ' = Gs (i + 1)) O))
    (hd : SV W u (Gs ds.length) O) : SV W (tSeq (tFor wi (gName j) tb) u) Γ O :=
  sv_for (fun i Γ' => Γ' = Gs i) hw h0.symm (fun i x Γ1 hx e => ⟨_, gd_name, by subst e; exact hs i x hx⟩) fun Γ1 e => by subst e; exact hd
end
/-! ### a def's body -/
section
variable {P : Program} {w : World} {K : PySem.W.Frag} {mg : Str → Option Value} {base : Heap}
def start0 (N : List Str) (ds : List D) : List AV := ds.map AV.d ++ List.replicate (N.length - ds.length) .no
theorem sl_start {H : Hp} {N : List Str} {vs : List V} {ds : List D} (W : Wd) (i : W.I H) (r : RpL H vs ds) : Sl W H (start0 N ds) (L2.start N vs) H where
  x := Xt.refl i
  len := by simp [L2.start, start0, r.length]
  da := fun i x e => by
    unfold start0 at e
    unfold L2.start
    rw [List.getElem?_append] at e
    split at e
    · rename_i h
      rw [List.getElem?_map] at e
      obtain ⟨d, h1, h2⟩ : ∃ d, ds[i]? = some d ∧ AV.d d = .d x := by simpa using e
      cases h2
      obtain ⟨v, a, b⟩ := r.get h1
      refine ⟨v, ?_, b⟩
      rw [List.getElem?_append_left (by simpa [r.length] using h), List.getElem?_map, a]
      rfl
    · rw [List.getElem?_replicate] at e
      split at e <;> cases e
  li := fun i x e => by
    unfold start0 at e
    rw [List.getElem?_append] at e
    split at e
    · rw [List.getElem?_map] at e
      obtain ⟨d, h1, h2⟩ : ∃ d, ds[i]? = some d ∧ AV.d d = .l x := by simpa using e
      cases h2
    · rw [List.getElem?_replicate] at e
      split at e <;> cases e
  ra := fun i x e => by
    unfold start0 at e
    rw [List.getElem?_append] at e
    split at e
    · rw [List.getElem?_map] at e
      obtain ⟨d, h1, h2⟩ : ∃ d, ds[i]? = some d ∧ AV.d d = .r x := by simpa using e
      cases h2
    · rw [List.getElem?_replicate] at e
      split at e <;> cases e
  ne := fun i j x y p _ e _ _ => by
    unfold start0 at e
    rw [List.getElem?_append] at e
    split at e
    · rw [List.getElem?_map] at e
      obtain ⟨d, h1, h2⟩ : ∃ d, ds[i]? = some d ∧ AV.d d = .l x := by simpa using e
      cases h2
    · rw [List.getElem?_replicate] at e
      split at e <;> cases e
/-- the context of a def's body -/
abbrev Bx (P : Program) (w : World) (K : PySem.W.Frag) (mg : Str → Option Value) (base : Heap) (N : List Str) (qual : Str) (st : Stmt) (f : Addr) (cdv : Value) (A : Around) (outer : List Env) (s : Shared) (H : Hp) (E : XK) : Cx :=
  (cxOf CX0 P w K mg base N qual (defScope st) f cdv A outer s H E).nox
theorem fn_F {x qual : Str} {st : Stmt} {f : Addr} {fd : FuncData} {N ps : List Str} {k : Nat} {ok : List D → Prop} {fn : List D → D} (F : Fun K x qual st f fd) (S : FnScope N ps (defScope st)) (hl : ∀ ds, ok ds → ds.length = ps.length)
    (body : ∀ (cdv : Value) (A : Around) (outer : List Env) (s : Shared) (H : Hp) (E : XK), Room k (A.deeper (PyProof.Rows.envOfC qual (defScope st) s.heap.objs.size f cdv)) → ∀ ds, ok ds → ∃ t, PSs (Bx P w K mg base N qual st f cdv A outer s H E) (defBody st) t ∧ SV W0 t (start0 N ds) (fun o => o = .rt (fn ds))) :
    FnOk P w K mg base CX0 (k + 1) f fd ps (spF ok fn) := by
  refine F.ok S (fun vs H Q E h => ?_) (fun cdv A outer s H vs Q E hr h => ?_)
  · obtain ⟨ds, r, o, _⟩ := h
    rw [r.length]
    exact hl ds o
  · obtain ⟨ds, r, o, q⟩ := h
    obtain ⟨t, p, sv⟩ := body cdv A outer s H E hr ds o
    refine ⟨t, p, sv H _ H (sl_start W0 trivial r) _ ⟨nofun, fun y v H' e x1 r1 => ?_, nofun, nofun, nofun⟩⟩
    cases e
    exact q v H' x1.of0 r1
theorem fn_X {ι : Type} {W : ι → Wd} {ok : ι → List D → Prop} {Pr : List D → D → Prop} {x qual : Str} {st : Stmt} {f : Addr} {fd : FuncData} {N ps : List Str} {k : Nat} (F : Fun K x qual st f fd) (S : FnScope N ps (defScope st)) (hl : ∀ i ds, ok i ds → ds.length = ps.length)
    (body : ∀ (cdv : Value) (A : Around) (outer : List Env) (s : Shared) (H : Hp) (E : XK), Room k (A.deeper (PyProof.Rows.envOfC qual (defScope st) s.heap.objs.size f cdv)) → ∀ i ds, ok i ds → ∃ t, PSs (Bx P w K mg base N qual st f cdv A outer s H E) (defBody st) t ∧ SV (W i) t (start0 N ds) (fun o => ∃ y, o = .rt y ∧ Pr ds y)) :
    FnOk P w K mg base CX0 (k + 1) f fd ps (spX W ok Pr) := by
  refine F.ok S (fun vs H Q E h => ?_) (fun cdv A outer s H vs Q E hr h => ?_)
  · obtain ⟨i, ds, r, _, o, _⟩ := h
    rw [r.length]
    exact hl i ds o
  · obtain ⟨i, ds, r, hi, o, q⟩ := h
    obtain ⟨t, p, sv⟩ := body cdv A outer s H E hr i ds o
    refine ⟨t, p, sv H _ H (sl_start (W i) hi r) _ ⟨(fun _ _ _ e => by obtain ⟨_, e, _⟩ := e; cases e), fun z v H' e x1 r1 => ?_, (fun _ _ _ _ e => by obtain ⟨_, e, _⟩ := e; cases e), (fun _ _ _ e => by obtain ⟨_, e, _⟩ := e; cases e), (fun _ _ _ e => by obtain ⟨_, e, _⟩ := e; cases e)⟩⟩
    obtain ⟨y, e, py⟩ := e
    cases e
    exact q v _ H' x1 r1 py
theorem fn_XL {ι : Type} {W : ι → Wd} {ok : ι → List D → Prop} {Pr : List D → List D → Prop} {x qual : Str} {st : Stmt} {f : Addr} {fd : FuncData} {N ps : List Str} {k : Nat} (F : Fun K x qual st f fd) (S : FnScope N ps (defScope st)) (hl : ∀ i ds, ok i ds → ds.length = ps.length)
    (body : ∀ (cdv : Value) (A : Around) (outer : List Env) (s : Shared) (H : Hp) (E : XK), Room k (A.deeper (PyProof.Rows.envOfC qual (defScope st) s.heap.objs.size f cdv)) → ∀ i ds, ok i ds → ∃ t, PSs (Bx P w K mg base N qual st f cdv A outer s H E) (defBody st) t ∧ SV (W i) t (start0 N ds) (fun o => ∃ y, o = .rl y ∧ Pr ds y)) :
    FnOk P w K mg base CX0 (k + 1) f fd ps (spXL W ok Pr) := by
  refine F.ok S (fun vs H Q E h => ?_) (fun cdv A outer s H vs Q E hr h => ?_)
  · obtain ⟨i, ds, r, _, o, _⟩ := h
    rw [r.length]
    exact hl i ds o
  · obtain ⟨i, ds, r, hi, o, q⟩ := h
    obtain ⟨t, p, sv⟩ := body cdv A outer s H E hr i ds o
    refine ⟨t, p, sv H _ H (sl_start (W i) hi r) _ ⟨(fun _ _ _ e => by obtain ⟨_, e, _⟩ := e; cases e), (fun _ _ _ e => by obtain ⟨_, e, _⟩ := e; cases e), fun es p xs H' e x1 n e1 r1 => ?_, (fun _ _ _ e => by obtain ⟨_, e, _⟩ := e; cases e), (fun _ _ _ e => by obtain ⟨_, e, _⟩ := e; cases e)⟩⟩
    obtain ⟨y, e, py⟩ := e
    cases e
    exact q p xs _ H' n x1 e1 r1 py
theorem fn_G {x qual : Str} {st : Stmt} {f : Addr} {fd : FuncData} {N ps : List Str} {k : Nat} {R : List D → D → Prop} (F : Fun K x qual st f fd) (S : FnScope N ps (defScope st)) (hl : ∀ ds y, R ds y → ds.length = ps.length)
    (body : ∀ (cdv : Value) (A : Around) (outer : List Env) (s : Shared) (H : Hp) (E : XK), Room k (A.deeper (PyProof.Rows.envOfC qual (defScope st) s.heap.objs.size f cdv)) → ∀ ds y, R ds y → ∃ t, PSs (Bx P w K mg base N qual st f cdv A outer s H E) (defBody st) t ∧ SV W0 t (start0 N ds) (fun o => o = .rt y)) :
    FnOk P w K mg base CX0 (k + 1) f fd ps (spG R) := by
  refine F.ok S (fun vs H Q E h => ?_) (fun cdv A outer s H vs Q E hr h => ?_)
  · obtain ⟨ds, y, r, o, _⟩ := h
    rw [r.length]
    exact hl ds y o
  · obtain ⟨ds, y, r, o, q⟩ := h
    obtain ⟨t, p, sv⟩ := body cdv A outer s H E hr ds y o
    refine ⟨t, p, sv H _ H (sl_start W0 trivial r) _ ⟨nofun, fun z v H' e x1 r1 => ?_, nofun, nofun, nofun⟩⟩
    cases e
    exact q v H' x1.of0 r1
theorem fn_GL {x qual : Str} {st : Stmt} {f : Addr} {fd : FuncData} {N ps : List Str} {k : Nat} {R : List D → List D → Prop} (F : Fun K x qual st f fd) (S : FnScope N ps (defScope st)) (hl : ∀ ds y, R ds y → ds.length = ps.length)
    (body : ∀ (cdv : Value) (A : Around) (outer : List Env) (s : Shared) (H : Hp) (E : XK), Room k (A.deeper (PyProof.Rows.envOfC qual (defScope st) s.heap.objs.size f cdv)) → ∀ ds y, R ds y → ∃ t, PSs (Bx P w K mg base N qual st f cdv A outer s H E) (defBody st) t ∧ SV W0 t (start0 N ds) (fun o => o = .rl y)) :
    FnOk P w K mg base CX0 (k + 1) f fd ps (spGL R) := by
  refine F.ok S (fun vs H Q E h => ?_) (fun cdv A outer s H vs Q E hr h => ?_)
  · obtain ⟨ds, y, r, o, _⟩ := h
    rw [r.length]
    exact hl ds y o
  · obtain ⟨ds, y, r, o, q⟩ := h
    obtain ⟨t, p, sv⟩ := body cdv A outer s H E hr ds y o
    refine ⟨t, p, sv H _ H (sl_start W0 trivial r) _ ⟨nofun, nofun, fun es p xs H' e x1 n e1 r1 => ?_, nofun, nofun⟩⟩
    cases e
    exact q p xs H' n x1.of0 e1 r1
theorem fn_L {x qual : Str} {st : Stmt} {f : Addr} {fd : FuncData} {N ps : List Str} {k : Nat} {ok : List D → Prop} {fn : List D → List D} (F : Fun K x qual st f fd) (S : FnScope N ps (defScope st)) (hl : ∀ ds, ok ds → ds.length = ps.length)
    (body : ∀ (cdv : Value) (A : Around) (outer : List Env) (s : Shared) (H : Hp) (E : XK), Room k (A.deeper (PyProof.Rows.envOfC qual (defScope st) s.heap.objs.size f cdv)) → ∀ ds, ok ds → ∃ t, PSs (Bx P w K mg base N qual st f cdv A outer s H E) (defBody st) t ∧ SV W0 t (start0 N ds) (fun o => o = .rl (fn ds))) :
    FnOk P w K mg base CX0 (k + 1) f fd ps (spL ok fn) := by
  refine F.ok S (fun vs H Q E h => ?_) (fun cdv A outer s H vs Q E hr h => ?_)
  · obtain ⟨ds, r, o, _⟩ := h
    rw [r.length]
    exact hl ds o
  · obtain ⟨ds, r, o, q⟩ := h
    obtain ⟨t, p, sv⟩ := body cdv A outer s H E hr ds o
    refine ⟨t, p, sv H _ H (sl_start W0 trivial r) _ ⟨nofun, nofun, fun es p xs H' e x1 n e1 r1 => ?_, nofun, nofun⟩⟩
    cases e
    exact q p xs H' n x1.of0 e1 r1
end
end Ly

set_option Elab.async false
set_option maxRecDepth 100000
set_option linter.unusedVariables false
namespace Ly
open PySem L2
/-! ### defs of the text -/
/-- a def of the text, found by its name, keeps its promise -/
structure Df (P : Program) (w : World) (K : PySem.W.Frag) (mg : Str → Option Value) (base : Heap) (k : Nat) (x : Str) (ps : List Str) (sp : Sp) : Prop where
  ex : ∃ (f : Addr) (fd : FuncData), FnOk P w K mg base CX0 k f fd ps sp ∧ mg x = some (.ref f) ∧ PySem.W.keepIn K (.ref f) = true ∧ Binds K fd ps []
theorem Df.mono {P : Program} {w : World} {K : PySem.W.Frag} {mg : Str → Option Value} {base : Heap} {j k : Nat} {x : Str} {ps : List Str} {sp : Sp} (h : Df P w K mg base j x ps sp) (l : j ≤ k) : Df P w K mg base k x ps sp :=
  let ⟨⟨f, fd, a, b⟩⟩ := h
  ⟨⟨f, fd, a.mono l, b⟩⟩
theorem Df.imp {P : Program} {w : World} {K : PySem.W.Frag} {mg : Str → Option Value} {base : Heap} {k : Nat} {x : Str} {ps : List Str} {sp sp' : Sp} (h : Df P w K mg base k x ps sp) (l : ∀ vs H Q E, sp' vs H Q E → sp vs H Q E) : Df P w K mg base k x ps sp' :=
  let ⟨⟨f, fd, a, b⟩⟩ := h
  ⟨⟨f, fd, a.imp l, b⟩⟩
theorem pe_df {X : Cx} {k : Nat} {x : Str} {ps : List Str} {sp : Sp} {e : Expr} {es : List Expr} {t : TA} {p pos : Pos} (h : Df X.prog X.w X.K X.mg X.base k x ps sp) (hr : Room k X.A) (hg : Gl X x) (ha : PA X (e :: es) t)
    (hdb : (x == ("__debug__" : Str)) = false := by decide) (he : starEach (e :: es) X.env = (false, eval e X.env) :: starEach es X.env := by rfl) (hpl : (backTo pos (starEach es X.env)).any (·.1) = false := by rfl) : PE X (.Call (.Name x p) (e :: es) [] pos) (tCall sp [] E0 t) :=
  let ⟨⟨_, _, F, hm, hk, hb⟩⟩ := h
  pe_call F hr hg hm hk hb .nil pass0 ha hdb he hpl
theorem bt_len : bootBuiltins "len" = some (.builtin "len") := by decide +kernel
theorem bt_max : bootBuiltins "max" = some (.builtin "max") := by decide +kernel
theorem bt_min : bootBuiltins "min" = some (.builtin "min") := by decide +kernel
theorem bt_sum : bootBuiltins "sum" = some (.builtin "sum") := by decide +kernel
theorem bt_abs : bootBuiltins "abs" = some (.builtin "abs") := by decide +kernel
theorem bt_any : bootBuiltins "any" = some (.builtin "any") := by decide +kernel
theorem bt_isinstance : bootBuiltins "isinstance" = some (.builtin "isinstance") := by decide +kernel
theorem bt_sorted : bootBuiltins "sorted" = some (.builtin "sorted") := by decide +kernel
theorem bt_tuple : bootBuiltins "tuple" = some (.type "tuple") := by decide +kernel
theorem bt_list : bootBuiltins "list" = some (.type "list") := by decide +kernel
theorem bt_int : bootBuiltins "int" = some (.type "int") := by decide +kernel
theorem bt_bool : bootBuiltins "bool" = some (.type "bool") := by decide +kernel
theorem bt_str : bootBuiltins "str" = some (.type "str") := by decide +kernel
theorem bt_dict : bootBuiltins "dict" = some (.type "dict") := by decide +kernel
/-! ### built-ins on data -/
section
variable {W : Wd} {Γ : List AV} {ta tb te : TE} {x y : D} {ds : List D} {K : PySem.W.Frag} {P : D → Prop}
/-- the name of a value's type -/
def D.tn : D → String
  | .non => "NoneType" | .bl _ => "bool" | .int _ => "int" | .str _ => "str" | .raw _ => "type" | .tup _ => "tuple"
theorem Rp.tyx {H : Hp} {v : V} (K : PySem.W.Frag) (r : Rp H v x) (h : ∀ n, x ≠ .raw n) : TyX K H v (.type x.tn) := by
  cases r with
  | non => exact .base .non
  | bl b => exact .base (.bl b)
  | int i => exact .base (.int i)
  | str x => exact .base (.str x)
  | raw n => exact absurd rfl (h _)
  | tup e l => exact .base (.tup e)
/-- isinstance(x, T) -/
theorem ed_isi {n : String} {b : Bool} (ha : ED W ta Γ x) (hb : ED W tb Γ (.raw (.ty n))) (hn : ∀ m, x ≠ .raw m) (h : kitB x.tn n = some b) : ED W (tCB (rIsi K) (tCons ta (tCons tb tNil))) Γ (.bl b) := ed_cb (ea_cons ha (ea_cons hb an_nil)) fun H vs hi rr Q q => by
  cases rr with
  | cons a l =>
    cases l with
    | cons c l =>
      cases l; cases c
      exact ⟨_, _, _, _, b, rfl, .ty _, a.tyx K hn, kit_ty h, q _ _ H (Xt.refl hi) (.bl b) rfl⟩
abbrev rAbs : List V → Hp → VK → Prop := fun xs H Q => ∃ i, xs = [.int i] ∧ Q (.int (if i < 0 then -i else i)) H
abbrev rInt1 : List V → Hp → VK → Prop := fun xs H Q => (∃ i, xs = [.int i] ∧ Q (.int i) H) ∨ ∃ k, xs = [.bl k] ∧ Q (.int (if k then 1 else 0)) H
abbrev rMin2 : List V → Hp → VK → Prop := fun xs H Q => ∃ i j, xs = [.int i, .int j] ∧ Q (.int (if j < i then j else i)) H
theorem ed_abs {i : Int} (ha : ED W ta Γ (.int i)) : ED W (tCB rAbs (tCons ta tNil)) Γ (.int (if i < 0 then -i else i)) := ed_cb (ea_cons ha an_nil) fun H vs hi rr Q q => by
  cases rr with
  | cons a l =>
    cases l; cases a
    exact ⟨i, rfl, q _ _ H (Xt.refl hi) (.int _) rfl⟩
theorem ed_int1 {i : Int} (ha : ED W ta Γ (.int i)) : ED W (tCB rInt1 (tCons ta tNil)) Γ (.int i) := ed_cb (ea_cons ha an_nil) fun H vs hi rr Q q => by
  cases rr with
  | cons a l =>
    cases l; cases a
    exact .inl ⟨i, rfl, q _ _ H (Xt.refl hi) (.int _) rfl⟩
theorem ed_min2 {i j : Int} (ha : ED W ta Γ (.int i)) (hb : ED W tb Γ (.int j)) : ED W (tCB rMin2 (tCons ta (tCons tb tNil))) Γ (.int (if j < i then j else i)) := ed_cb (ea_cons ha (ea_cons hb an_nil)) fun H vs hi rr Q q => by
  cases rr with
  | cons a l =>
    cases l with
    | cons c l =>
      cases l; cases c; cases a
      exact ⟨i, j, rfl, q _ _ H (Xt.refl hi) (.int _) rfl⟩
/-- sum of a list of ints -/
theorem ed_sum {ns : List Int} (h : ER W te Γ (ns.map D.int)) : ED W (tCB (rSum K) (tCons te tNil)) Γ (.int ns.sum) := dn_cbL h fun H p xs hi e r Q q => by
  rw [r.of_ints] at e
  exact ⟨p, ns, rfl, .of e, q _ _ H (Xt.refl hi) (.int _) rfl⟩
/-- max of a list of ints -/
theorem ed_max {ns : List Int} {m : Int} (h : ER W te Γ (ns.map D.int)) (h1 : m ∈ ns) (h2 : ∀ y ∈ ns, y ≤ m) : ED W (tCB (rMax K) (tCons te tNil)) Γ (.int m) := dn_cbL h fun H p xs hi e r Q q => by
  rw [r.of_ints] at e
  refine ⟨p, ns, rfl, .of e, List.length_pos_of_mem h1, fun z hz hle => ?_⟩
  have : z = m := Int.le_antisymm (h2 z hz) (hle m h1)
  subst this
  exact q _ _ H (Xt.refl hi) (.int _) rfl
/-- list(range(..)) -/
theorem el_lstRg1 {n : Int} (ha : ED W ta Γ (.int n)) (h1 : 0 ≤ n) (h2 : n ≤ 100000) : EL W (tLstRg (tRg1 ta)) Γ (rangeD 0 n.toNat) := fun B σ H s Q q => ha B σ H s _ fun v y H' x r e => by
  subst e
  cases r
  refine ⟨n, rfl, RgOk.of_le (Int.le_refl 0) (by omega) (by omega) h1, fun p hp => ?_⟩
  have xx : Xt W H' (upd H' p (.lst (rgV 0 n))) := Xt.new x.2 hp
  refine q p _ _ _ (x.free s.i hp) (x.trans xx) upd_same ?_ rfl
  unfold rgV rangeD
  rw [Int.sub_zero]
  have h : ∀ l : List Nat, RpL (upd H' p (.lst ((List.range n.toNat).map fun (i : Nat) => V.int (0 + (i : Nat))))) (l.map fun (i : Nat) => V.int (0 + (i : Nat))) (l.map fun (i : Nat) => D.int (0 + (i : Int))) := fun l => by
    induction l with
    | nil => exact .nil
    | cons a l ih => exact .cons (.int _) ih
  exact h _
theorem el_lstRg2 {m n : Int} (ha : ED W ta Γ (.int m)) (hb : ED W tb Γ (.int n)) (h0 : 0 ≤ m) (h01 : m ≤ 100000) (h1 : 0 ≤ n) (h2 : n ≤ 100000) : EL W (tLstRg (tRg2 ta tb)) Γ (rangeD m (n - m).toNat) := fun B σ H s Q q => ha B σ H s _ fun v y H1 x1 r1 e1 => hb B σ H1 (s.mono x1) _ fun u z H' x2 r2 e2 => by
  subst e1; subst e2
  cases r1; cases r2
  refine ⟨m, n, rfl, rfl, RgOk.of_le h0 (by omega) (by omega) h1, fun p hp => ?_⟩
  have x := x1.trans x2
  have xx : Xt W H' (upd H' p (.lst (rgV m n))) := Xt.new x.2 hp
  refine q p _ _ _ (x.free s.i hp) (x.trans xx) upd_same ?_ rfl
  unfold rgV rangeD
  have h : ∀ (H : Hp) (l : List Nat), RpL H (l.map fun (i : Nat) => V.int (m + (i : Nat))) (l.map fun (i : Nat) => D.int (m + (i : Int))) := fun H l => by
    induction l with
    | nil => exact .nil
    | cons a l ih => exact .cons (.int _) ih
  exact h _ _
end
end Ly

set_option Elab.async false
set_option maxRecDepth 100000
set_option linter.unusedVariables false
namespace Ly
open PySem L2 PyProof.Rows
/-! ### max(t, default=d), t a tuple of ints -/
theorem holds_ints {h : Heap} : ∀ {us : List Value} {ns : List Int}, IntsAre us ns → PySem.W.HoldAll h us ns
  | _, _, .nil => PySem.W.HoldAll.nil
  | _, _, .cons n t r => PySem.W.HoldAll.cons ⟨_, Reads.int _ _⟩ (holds_ints r)
theorem maxOf_mem (x : Int) (xs : List Int) : PySem.W.maxOf x xs ∈ x :: xs ∧ ∀ y ∈ x :: xs, y ≤ PySem.W.maxOf x xs := by
  unfold PySem.W.maxOf
  induction xs generalizing x with
  | nil => simp
  | cons a l ih =>
    rw [List.foldl_cons]
    have e : (if PySem.W.DatumOrd.lt x a = true then a else x) = if x < a then a else x := by
      show (if decide (x < a) = true then a else x) = _
      simp
    rw [e]
    by_cases h : x < a
    · rw [if_pos h]
      obtain ⟨h1, h2⟩ := ih a
      refine ⟨List.mem_cons_of_mem _ h1, fun y hy => ?_⟩
      rcases List.mem_cons.mp hy with rfl | hy
      · exact Int.le_trans (Int.le_of_lt h) (h2 a List.mem_cons_self)
      · exact h2 y hy
    · rw [if_neg h]
      obtain ⟨h1, h2⟩ := ih x
      refine ⟨?_, fun y hy => ?_⟩
      · rcases List.mem_cons.mp h1 with h1 | h1
        · rw [h1]; exact List.mem_cons_self
        · exact List.mem_cons_of_mem _ (List.mem_cons_of_mem _ h1)
      · rcases List.mem_cons.mp hy with rfl | hy
        · exact h2 y List.mem_cons_self
        · rcases List.mem_cons.mp hy with rfl | hy
          · exact Int.le_trans (Int.not_lt.mp h) (h2 x List.mem_cons_self)
          · exact h2 y (List.mem_cons_of_mem _ hy)
def rMaxDf (K : PySem.W.Frag) : List V → List V → Hp → VK → Prop := fun xs zs H Q => ∃ (a : Addr) (ns : List Int) (d : V), xs = [.ref a] ∧ zs = [d] ∧ SqT K H a (ns.map V.int) ∧ (ns = [] → Q d H) ∧ ∀ m, m ∈ ns → (∀ y ∈ ns, y ≤ m) → Q (.int m) H
theorem call_maxDf {X : Cx} (hc : X.calm = true) (hu : X.A.units + 64 < cLine) : CallRK X (.builtin "max") ["default"] (rMaxDf X.K) := by
  intro pins s σ H xs zs us ws Q I r1 r2 h
  obtain ⟨a, ns, d, rfl, rfl, ht, q0, q1⟩ := h
  obtain ⟨its, rv, hl, _⟩ := I.tuple ht
  rw [Vals.ref1 r1]
  obtain ⟨dv, rfl, rd⟩ := vals1 r2
  show wpAny _ _ (call (.builtin "max") [.ref a] [(Str.ofString "default", dv)]) _ _ s
  refine PySem.W.max_tuple_datum_default (α := Int) (I.ok.hd hc) hl (holds_ints rv.ints) (by show X.A.units + 1 + 0 < cLine; omega) (fun e h' tk k => ?_) fun y ys i v h' tk e hi hh k => ?_
  · exact ⟨d, H, I.kept k, rd, q0 e⟩
  · obtain ⟨as, rr⟩ := hh
    obtain ⟨h1, h2⟩ := maxOf_mem y ys
    have e2 : PySem.W.Datum.toD (PySem.W.maxOf y ys) = PyData.int (PySem.W.maxOf y ys) := rfl
    rw [e2] at rr
    cases rr
    refine ⟨.int _, H, I.kept k, ⟨_, rfl⟩, q1 _ (e ▸ h1) (e ▸ h2)⟩
section
variable {W : Wd} {Γ : List AV} {ta tb te : TE} {x y : D} {ds : List D} {K : PySem.W.Frag} {P : D → Prop}
theorem ed_maxDf {ns : List Int} {d m : Int} (ha : ED W ta Γ (.tup (ns.map D.int))) (hb : ED W tb Γ (.int d)) (h0 : ns = [] → m = d) (h1 : ns ≠ [] → m ∈ ns ∧ ∀ y ∈ ns, y ≤ m) : ED W (tCKw (rMaxDf K) (tCons ta tNil) (tCons tb tNil)) Γ (.int m) := fun B σ H s Q q =>
  ha B σ H s _ fun v y H1 x1 r1 e1 => hb B σ H1 (s.mono x1) _ fun u z H2 x2 r2 e2 => by
    subst e1; subst e2
    have r3 := r1.mono (x2.tk x1.2)
    cases r2
    cases r3 with
    | tup e l =>
      rw [l.of_ints] at e
      refine ⟨_, ns, _, rfl, rfl, .of e, fun hn => q _ _ H2 (x1.trans x2) (.int _) (by rw [h0 hn]), fun k hk hle => ?_⟩
      obtain ⟨g1, g2⟩ := h1 (List.ne_nil_of_mem hk)
      have : k = m := Int.le_antisymm (g2 k hk) (hle m g1)
      subst this
      exact q _ _ H2 (x1.trans x2) (.int _) rfl
/-! ### sum of a list or a tuple of ints -/
def rSumT (K : PySem.W.Frag) : List V → Hp → VK → Prop := fun vs H Q => ∃ (a : Addr) (ns : List Int), vs = [V.ref a] ∧ SqT K H a (ns.map V.int) ∧ Q (.int ns.sum) H
theorem call_sumT {X : Cx} (hc : X.calm = true) : CallR X (.builtin "sum") (rSumT X.K) := by
  intro pins s σ H vs us Q I r h
  obtain ⟨a, ns, rfl, hs, q⟩ := h
  obtain ⟨its, rv, hl, _⟩ := I.tuple hs
  rw [Vals.ref1 r]
  have hi := rv.ints
  obtain ⟨xs, e⟩ := hi.allInts.items
  have hn : numsOf (intItems xs).toList = ns := by rw [← e]; exact hi.numsOf
  rw [nums_intItems] at hn
  rw [e] at hl
  refine PySem.W.ktm_sumG (I.ok.hd hc) hl fun h' tk t' hk => ?_
  rw [preSum_eq, List.take_of_length_le (by simp), hn]
  exact ⟨.int _, H, I.kept hk, ⟨_, rfl⟩, q⟩
def rSumU (K : PySem.W.Frag) : List V → Hp → VK → Prop := fun vs H Q => rSum K vs H Q ∨ rSumT K vs H Q
theorem call_sumU {X : Cx} (hc : X.calm = true) : CallR X (.builtin "sum") (rSumU X.K) := CallR.or (cr_sum hc) (call_sumT hc)
theorem ed_sumT {ns : List Int} (h : ED W te Γ (.tup (ns.map D.int))) : ED W (tCB (rSumU K) (tCons te tNil)) Γ (.int ns.sum) := ed_cb (ea_cons h an_nil) fun H vs hi rr Q q => by
  cases rr with
  | cons a b =>
    cases b
    cases a with
    | tup e l =>
      rw [l.of_ints] at e
      exact .inr ⟨_, ns, rfl, .of e, q _ _ H (Xt.refl hi) (.int _) rfl⟩
theorem ed_sumL {ns : List Int} (h : ER W te Γ (ns.map D.int)) : ED W (tCB (rSumU K) (tCons te tNil)) Γ (.int ns.sum) := dn_cbL h fun H p xs hi e r Q q => by
  rw [r.of_ints] at e
  exact .inl ⟨p, ns, rfl, .of e, q _ _ H (Xt.refl hi) (.int _) rfl⟩
end
end Ly

set_option Elab.async false
set_option maxRecDepth 100000
set_option linter.unusedVariables false
namespace Ly
open PySem L2
/-! ### a body over a list from outside -/
def SVB (W : Wd) (B : Hp) (ts : TS) (Γ : List AV) (O : Out → Prop) : Prop := ∀ (σ : L2.St) (H : Hp), Sl W B Γ σ H → ∀ D : Ends, Holds W B O D → ts D σ H
section
variable {W : Wd} {B : Hp} {Γ Γ' : List AV} {te : TE} {tb : TS} {K : PySem.W.Frag} {O : Out → Prop} {t u : TS}
theorem SV.b (h : SV W t Γ O) : SVB W B t Γ O := fun σ H s D d => h B σ H s D d
theorem svb_seq {G : List AV → Prop} (h : SV W t Γ (fun o => ∃ Γ', o = .nx Γ' ∧ G Γ')) (h2 : ∀ Γ', G Γ' → SVB W B u Γ' O) : SVB W B (tSeq t u) Γ O := fun σ H s D d =>
  h B σ H s _ ⟨fun Γ' σ' H' ⟨_, e, g⟩ s' => (by cases e; exact h2 _ g σ' H' s' D d), fun _ _ _ ⟨_, e, _⟩ => (by cases e), fun _ _ _ _ ⟨_, e, _⟩ => (by cases e), fun _ _ _ ⟨_, e, _⟩ => (by cases e), fun _ _ _ ⟨_, e, _⟩ => (by cases e)⟩
theorem svb_forL {a : Addr} {ns : List Int} {i0 j : Nat} (G : Nat → List AV → Prop) (hB : SqL K B a (ns.map V.int)) (hi : Γ[i0]? = some (.d (.raw (.ref a)))) (h0 : G 0 Γ)
    (hs : ∀ (i : Nat) (z : Int) (Γ1 : List AV), ns[i]? = some z → G i Γ1 → SV W0 tb (Γ1.set j (.d (.int z))) (fun o => ∃ Γ', o = .nx Γ' ∧ G (i + 1) Γ'))
    (hd : ∀ Γ1, G ns.length Γ1 → SVB W0 B u Γ1 O) : SVB W0 B (tSeq (tFor (iList K (tVar i0)) (gName j) tb) u) Γ O := fun σ H s D d => by
  obtain ⟨v, e1, r⟩ := s.da i0 _ hi
  cases r
  have sq : ∀ {Γ : List AV} {σ : L2.St} {H : Hp}, Sl W0 B Γ σ H → SqL K H a (ns.map V.int) := fun s => s.x.of0.seq hB
  refine ⟨_, e1, a, rfl, ⟨_, sq s⟩, for_list (K := K) (a := a) (xs := ns.map V.int) (fun i σ H2 => ∃ Γ1, G i Γ1 ∧ Sl W0 B Γ1 σ H2) ⟨Γ, h0, s⟩ (fun i σ H2 _ ⟨Γ1, _, s1⟩ => sq s1) ?_ ?_⟩
  · rintro i y σ2 H2 hy ⟨Γ1, g, s1⟩
    obtain ⟨z, hz, rfl⟩ : ∃ z, ns[i]? = some z ∧ V.int z = y := by simpa using hy
    exact hs i z Γ1 hz g B _ H2 (s1.setd (.int z) j) _ ⟨fun Γ' σ' H' ⟨_, e, g⟩ s' => (by cases e; exact ⟨_, g, s'⟩), fun _ _ _ ⟨_, e, _⟩ => (by cases e), fun _ _ _ _ ⟨_, e, _⟩ => (by cases e), fun _ _ _ ⟨_, e, _⟩ => (by cases e), fun _ _ _ ⟨_, e, _⟩ => (by cases e)⟩
  · rintro σ2 H2 ⟨Γ1, g, s1⟩
    rw [List.length_map] at g
    exact hd Γ1 g σ2 H2 s1 D d
end
end Ly

set_option Elab.async false
set_option maxRecDepth 100000
set_option linter.unusedVariables false
namespace Ly
open PySem L2
section
variable {W : Wd} {Γ : List AV} {te : TE} {ds : List D} {K : PySem.W.Frag} {ta : TA} {x y : D}
/-- range(i, j, -1) -/
theorem jok_rngC {B : Hp} {lo c : Int} {n : Nat} : Jok W (Itc lo c n) B ((List.range n).map fun (k : Nat) => D.int (lo + (k : Int) * c)) where
  go := fun i H x h => by
    show i < n
    simpa using h
  yld := fun i H v H' x h d hd => by
    obtain ⟨rfl, rfl⟩ := h
    rw [List.getElem?_map] at hd
    by_cases q : i < n
    · rw [List.getElem?_range q] at hd
      cases hd
      exact ⟨.int _, Xt.refl x.2⟩
    · rw [List.getElem?_eq_none_iff.mpr (by simp; omega)] at hd
      cases hd
  stop := fun i H x h => by
    show n ≤ i
    simpa using h
theorem wd_down {i j : Int} (h : EA W ta Γ [.int i, .int j, .int (-1)]) (h1 : -(2 ^ 62) ≤ i) (h2 : i < 2 ^ 62) (h3 : -(2 ^ 62) ≤ j) (h4 : j < 2 ^ 62) : WalkD W (iRng3 ta) Γ ((List.range (i - j).toNat).map fun (k : Nat) => D.int (i + (k : Int) * (-1))) := fun B σ H s R q => h B σ H s _ fun vs ys H1 x r e => by
  subst e
  cases r with
  | cons a r =>
  cases r with
  | cons b r =>
  cases r with
  | cons c r =>
  cases r; cases a; cases b; cases c
  exact ⟨i, j, -1, _, rfl, RgC.neg h1 h2 h3 h4, q _ H1 x fun B1 i1 tk fr => jok_rngC⟩
/-- a if t else b, as a test -/
def tIfT (tc ta tb : TT) : TT := fun σ H Q => tc σ H fun c H1 => if c = true then ta σ H1 Q else tb σ H1 Q
theorem pt_ifE {X : Cx} {c a b : Expr} {pos : Pos} {tc ta tb : TT} (hc : PT X c tc) (ha : PT X a ta) (hb : PT X b tb) : PT X (.IfExp c a b pos) (tIfT tc ta tb) := by
  refine ⟨fun pins s σ H Q I h => ?_⟩
  show wpAny _ _ (isTrue c X.env (eval c X.env) >>= fun r => if r = true then isTrue a X.env (eval a X.env) else isTrue b X.env (eval b X.env)) _ _ s
  refine wpAny_bind (thn (hc.run pins s σ H _ I h) fun d s1 ⟨H1, I1, q1⟩ => ?_)
  cases d with
  | true => exact ha.run pins s1 σ H1 Q I1 q1
  | false => exact hb.run pins s1 σ H1 Q I1 q1
theorem et_ifT {tc ta tb : TT} {b c : Bool} (h : ET W tc Γ b) (h1 : b = true → ET W ta Γ c) (h2 : b = false → ET W tb Γ c) : ET W (tIfT tc ta tb) Γ c := fun B σ H s Q q => h B σ H s _ fun d H' x e => by
  subst e
  cases d with
  | true => exact h1 rfl B σ H' (s.mono x) _ fun z H2 x2 e => q z H2 (x.trans x2) e
  | false => exact h2 rfl B σ H' (s.mono x) _ fun z H2 x2 e => q z H2 (x.trans x2) e
end
end Ly

set_option Elab.async false
set_option maxRecDepth 100000
set_option linter.unusedVariables false
namespace Ly
open PySem PySem.Spec L2 PyProof.Rows
/-! ### tuple(reversed(xs)) -/
def tTupRev (K : PySem.W.Frag) (te : TE) : TE := fun σ H Q => te σ H fun v H1 => ∃ a xs, v = .ref a ∧ SqL K H1 a xs ∧ ∀ q, H1 q = none → Q (.ref q) (upd H1 q (.tup xs.reverse))
theorem pe_tupRev {X : Cx} {e : Expr} {te : TE} {p pos p2 pos2 : Pos} (hc : X.calm = true) (hg : Gl X "tuple") (hm : X.mg "tuple" = none) (hg2 : Gl X "reversed") (hm2 : X.mg "reversed" = none) (ha : PE X e te) (na : starEach [e] X.env = (false, eval e X.env) :: starEach [] X.env := by rfl)
    (nb : starEach [.Call (.Name "reversed" p2) [e] [] pos2] X.env = (false, eval (.Call (.Name "reversed" p2) [e] [] pos2) X.env) :: starEach [] X.env := by rfl) :
    PE X (.Call (.Name "tuple" p) [.Call (.Name "reversed" p2) [e] [] pos2] [] pos) (tTupRev X.K te) := by
  refine ⟨fun pins s σ H Q I h => ?_⟩
  have hrev : wpAny (model X.prog X.w) X.A (eval (.Call (.Name "reversed" p2) [e] [] pos2) X.env) (fun v s' => ∃ (it a : Addr) (its : Array Value) (xs : List V) (H' : Hp), v = .ref it ∧ s'.heap.IsRevIter it a ((its.size : Int) - 1) ∧ L2.Inv X pins σ H' s' ∧ s'.heap.IsList a its ∧ a ≠ it ∧ Vals xs its.toList ∧ xs.length ≤ sizeLine ∧ FpOk X pins H' it ∧ ∀ q, H' q = none → Q (.ref q) (upd H' q (.tup xs.reverse))) X.xe s := by
    refine Call_ (ld_blt I hg2 hm2 PyProof.Rows.boot_reversed (PyProof.Rows.callWith_type1 (one_arg ha I h (fun v s2 x H2 I2 r q => ?_) na) na))
    obtain ⟨a, xs, rfl, hq, q⟩ := q
    cases r
    obtain ⟨its, rv, p', hz⟩ := I2.list hq
    refine call_reversed_list p'.isList ⟨_, a, its.toArray, xs, H2, rfl, ⟨_, Heap.get?_push_size _ rfl, rfl, rfl⟩, I2.kept fun b u e => Heap.get?_push_of_some _ e, ?_, ?_, by simpa using rv, hz, I2.fpOk (Nat.le_refl _) I2.fresh, q⟩
    · exact (p'.isList).at fun o e => Heap.get?_push_of_some _ e
    · obtain ⟨o, ho, _⟩ := p'.isList
      exact Nat.ne_of_lt (Heap.lt_size ho)
  refine Call_ (ld_blt I hg hm boot_tuple (PyProof.Rows.callWith_type1 (args_cons (thn hrev fun v s1 ⟨it, a, its, xs, H1, ex, hit, I1, hl, hne, rv, hz, fp, q⟩ => args_nil ?_) nb) nb))
  subst ex
  have hsz : its.size = xs.length := by rw [rv.length]; simp
  refine RT.call_tuple_rev (I1.ok.hd hc) hit hl hne (by rw [hsz]; exact hz) fun h' tk acc hk hi => ?_
  have I2 : L2.Inv X pins σ H1 { s1 with heap := h', toks := tk } := I1.turned hk fp.1 fp.2.1 fp.2.2.2.1 fp.2.2.2.2.1 fp.2.2.2.2.2
  have hv : Vals xs.reverse acc.toList := by
    obtain ⟨e1, e2⟩ := hi
    refine vals_of_at (by rw [List.length_reverse]; simp; omega) fun j x u h1 h2 => ?_
    have hj : j < xs.length := by have := lt_of_get h1; rwa [List.length_reverse] at this
    have h3 := e2 j u (by simpa using h2)
    rw [List.getElem?_reverse hj] at h1
    obtain ⟨u', g1, g2⟩ := rv.get h1
    rw [Array.getElem?_toList] at g1
    rw [hsz, g1] at h3
    cases h3
    exact g2
  refine ⟨.ref h'.objs.size, upd H1 h'.objs.size (.tup xs.reverse), I2.laid (t' := tk) (fun c o e => Heap.get?_push_of_some _ e) (Nat.le_refl _) (show ObjOk X.prog X.w _ _ _ (.tup xs.reverse) from ⟨by rw [List.length_reverse]; exact hz, acc.toList, hv, ?_⟩), rfl, q _ (I2.hok.fresh (Nat.le_refl _))⟩
  rw [Array.toArray_toList]
  exact IsTup.new _ _
end Ly

set_option Elab.async false
set_option maxRecDepth 100000
set_option linter.unusedVariables false
namespace Ly
open PySem L2
/-! ### a world of lists: at each address of C the list of its data -/
abbrev LC := List (Addr × List D)
def Wq (C : LC) : Wd where
  M := fun a => ∃ ds, (a, ds) ∈ C
  I := fun H => ∀ a ds, (a, ds) ∈ C → ∃ xs, H a = some (.lst xs) ∧ RpL H xs ds
  there := fun H a i ⟨ds, m⟩ => by
    obtain ⟨xs, e, _⟩ := i a ds m
    rw [e]; exact nofun
  notup := fun H a i ⟨ds, m⟩ xs => by
    obtain ⟨ys, e, _⟩ := i a ds m
    rw [e]; exact nofun
  stable := fun H H' k tk i a ds m => by
    obtain ⟨xs, e, r⟩ := i a ds m
    exact ⟨xs, (k a ⟨ds, m⟩).trans e, r.mono tk⟩
def cset (C : LC) (a : Addr) (es : List D) : LC := C.map fun p => if p.1 = a then (a, es) else p
theorem cset_M {C : LC} {a : Addr} {es : List D} {b : Addr} : (∃ ds, (b, ds) ∈ cset C a es) ↔ ∃ ds, (b, ds) ∈ C := by
  unfold cset
  constructor
  · rintro ⟨ds, m⟩
    obtain ⟨⟨c, fs⟩, m1, m2⟩ := List.mem_map.mp m
    simp only at m2
    split at m2
    · rename_i h
      cases m2
      exact ⟨_, h ▸ m1⟩
    · cases m2
      exact ⟨_, m1⟩
  · rintro ⟨ds, m⟩
    by_cases h : b = a
    · exact ⟨es, List.mem_map.mpr ⟨(b, ds), m, by simp [h]⟩⟩
    · exact ⟨ds, List.mem_map.mpr ⟨(b, ds), m, by simp [h]⟩⟩
section
variable {C : LC} {B H : Hp} {Γ : List AV} {σ : L2.St} {a : Addr} {ds es : List D} {K : PySem.W.Frag} {te ti tx : TE} {x : D} {u : TS} {Dn : Ends}
theorem Sl.putq (s : Sl (Wq C) B Γ σ H) (hm : (a, ds) ∈ C) {ys : List V} (r : RpL H ys es) : Sl (Wq (cset C a es)) B Γ σ (L2.upd H a (.lst ys)) := by
  obtain ⟨xs0, e0, _⟩ := s.i a ds hm
  have tk : Tk H (L2.upd H a (.lst ys)) := fun b zs e => by
    rw [upd_ne]
    · exact e
    · intro z; subst z; rw [e0] at e; cases e
  refine ⟨⟨fun b o e nm => ?_, fun b fs m => ?_⟩, s.len, fun i y e => ?_, fun i fs e => ?_, s.ra, s.ne⟩
  · have hb : b ≠ a := fun z => nm (cset_M.mpr ⟨ds, z ▸ hm⟩)
    rw [upd_ne hb]
    exact s.x.1 b o e fun m => nm (cset_M.mpr m)
  · obtain ⟨⟨c, gs⟩, m1, m2⟩ := List.mem_map.mp m
    simp only at m2
    split at m2
    · cases m2
      exact ⟨ys, upd_same, r.mono tk⟩
    · rename_i h
      cases m2
      obtain ⟨xs, e, rr⟩ := s.i b fs m1
      exact ⟨xs, by rw [upd_ne h]; exact e, rr.mono tk⟩
  · obtain ⟨v, g1, g2⟩ := s.da i y e
    exact ⟨v, g1, g2.mono tk⟩
  · obtain ⟨p, xs, g1, g2, g3, g4, g5⟩ := s.li i fs e
    refine ⟨p, xs, g1, ?_, g3.mono tk, g4, fun m => g5 (cset_M.mp m)⟩
    rw [upd_ne]
    · exact g2
    · intro z; subst z; exact g5 ⟨ds, hm⟩
theorem ed_ixQ {i : Int} (hx : ED (Wq C) tx Γ (.raw (.ref a))) (hm : (a, ds) ∈ C) (hi : ED (Wq C) ti Γ (.int i)) (h : L2.atI ds i = some x) : ED (Wq C) (tOp (rIx K) tx ti) Γ x :=
  ed_op hx hi fun H v u hi r1 r2 Q q => .inl <| by
    cases r1; cases r2
    obtain ⟨xs, e, l⟩ := hi a ds hm
    obtain ⟨w, g1, g2⟩ := l.atI h
    exact ⟨_, xs, i, w, rfl, rfl, .of e, g1, q _ _ H (Xt.refl hi) g2 rfl⟩
theorem ed_lenQ (hx : ED (Wq C) tx Γ (.raw (.ref a))) (hm : (a, ds) ∈ C) : ED (Wq C) (tCB (rLenS K) (tCons tx tNil)) Γ (.int ds.length) := ed_cb (ea_cons hx an_nil) fun H vs hi rr Q q => by
  cases rr with
  | cons r1 r2 =>
    cases r2; cases r1
    obtain ⟨xs, e, l⟩ := hi a ds hm
    refine ⟨_, _, rfl, .inl (.of e), q _ _ H (Xt.refl hi) (.int _) ?_⟩
    rw [l.length]
theorem et_trQ (hx : ED (Wq C) tx Γ (.raw (.ref a))) (hm : (a, ds) ∈ C) : ET (Wq C) (tTr K tx) Γ (!ds.isEmpty) := fun B σ H s Q q => hx B σ H s _ fun v y H' x1 r p => by
  subst p
  cases r
  obtain ⟨xs, e, l⟩ := x1.2 a ds hm
  refine ⟨_, .inl ⟨_, .of e, rfl⟩, q _ H' x1 ?_⟩
  cases l <;> rfl
theorem seq_end {t : TS} (h : tSeq t tNext Dn σ H) : t Dn σ H := h
/-- statements one by one -/
theorem run {W : Wd} {t : TS} {Γ' : List AV} (s : Sl W B Γ σ H) (h : SV W t Γ (fun o => o = .nx Γ')) (k : ∀ σ' H', Sl W B Γ' σ' H' → u Dn σ' H') : tSeq t u Dn σ H :=
  h B σ H s _ ⟨fun Γ1 σ' H' e s' => by cases e; exact k σ' H' s', nofun, nofun, nofun, nofun⟩
theorem last_at {α : Type} {l : List α} {x : α} (h : l.getLast? = some x) : L2.atI l (-1) = some x := by
  obtain ⟨ys, rfl⟩ := List.getLast?_eq_some_iff.mp h
  exact atI_last ys x
theorem pop_q (s : Sl (Wq C) B Γ σ H) (hx : ED (Wq C) tx Γ (.raw (.ref a))) (hm : (a, ds) ∈ C) (hl : ds.getLast? = some x) {Q : VK} (q : ∀ v H', Sl (Wq (cset C a ds.dropLast)) B Γ σ H' → Rp H' v x → Q v H') : tBM0 K "list" rPop tx σ H Q :=
  hx B σ H s _ fun v y H' x1 r p => by
    subst p
    cases r
    obtain ⟨xs, e, l⟩ := x1.2 a ds hm
    obtain ⟨v, g1, g2⟩ := l.get (i := ds.length - 1) (by rw [← List.getLast?_eq_getElem?]; exact hl)
    rw [← l.length] at g1
    refine ⟨.inl ⟨rfl, _, .of e⟩, a, xs, v, rfl, rfl, e, g1, q v _ ((s.mono x1).putq hm l.dropLast) (g2.mono fun b zs e2 => ?_)⟩
    rw [upd_ne]
    · exact e2
    · intro z; subst z; rw [e] at e2; cases e2
theorem run_pop (s : Sl (Wq C) B Γ σ H) (hx : ED (Wq C) tx Γ (.raw (.ref a))) (hm : (a, ds) ∈ C) (hl : ds.getLast? = some x) (k : ∀ H', Sl (Wq (cset C a ds.dropLast)) B Γ σ H' → u Dn σ H') : tSeq (tDrop (tBM0 K "list" rPop tx)) u Dn σ H :=
  pop_q s hx hm hl fun v H' s' _ => k H' s'
theorem run_popS {i : Nat} (s : Sl (Wq C) B Γ σ H) (hx : ED (Wq C) tx Γ (.raw (.ref a))) (hm : (a, ds) ∈ C) (hl : ds.getLast? = some x) (k : ∀ σ' H', Sl (Wq (cset C a ds.dropLast)) B (Γ.set i (.d x)) σ' H' → u Dn σ' H') : tSeq (tAsg (tBM0 K "list" rPop tx) (gName i)) u Dn σ H :=
  pop_q s hx hm hl fun v H' s' r => k _ H' (s'.setd r i)
/-- o[j], number = number, e -/
theorem run_swap {i j : Nat} {y : D} (s : Sl (Wq C) B Γ σ H) (hn : Γ[i]? = some (.d x)) (he : ED (Wq C) te Γ y) (hx : ED (Wq C) tx Γ (.raw (.ref a))) (hm : (a, ds) ∈ C) (hj : ED (Wq C) ti Γ (.int (j : Int))) (hl : j < ds.length)
    (k : ∀ σ' H', Sl (Wq (cset C a (ds.set j x))) B (Γ.set i (.d y)) σ' H' → u Dn σ' H') : tSeq (tAsg (tTup (tCons (tVar i) (tCons te tNil))) (gTup K 2 (gCons (gSub tx ti rSetL) (gCons (gName i) gNil)))) u Dn σ H := by
  show tTup (tCons (tVar i) (tCons te tNil)) σ H (fun x H1 => gTup K 2 (gCons (gSub tx ti rSetL) (gCons (gName i) gNil)) x σ H1 (u Dn))
  refine ed_tup (W := Wq C) (Γ := Γ) (ea_cons (ed_var hn) (ea_cons he an_nil)) (by simp) B σ H s _ fun v z H1 x1 r p => ?_
  subst p
  cases r with
  | tup e l =>
  cases l with
  | cons r1 l =>
  cases l with
  | cons r2 l =>
  cases l
  refine ⟨_, _, rfl, .of e, rfl, _, _, rfl, ?_⟩
  refine hx B σ H1 (s.mono x1) _ fun v z H2 x2 r p => ?_
  subst p
  cases r
  refine hj B σ H2 ((s.mono x1).mono x2) _ fun v z H3 x3 r p => ?_
  subst p
  cases r
  have x23 := x2.trans x3
  obtain ⟨xs, e3, l3⟩ := x3.2 a ds hm
  have tk3 := x23.tk x1.2
  refine ⟨a, xs, (j : Int), j, rfl, rfl, e3, ?_, ?_⟩
  · unfold ixN
    rw [l3.length, if_pos (Int.natCast_nonneg _), if_pos (by exact_mod_cast hl)]
    simp
  · have s3 := (((s.mono x1).mono x23).putq hm (l3.set (r1.mono tk3) j))
    refine ⟨_, _, rfl, rfl, ?_⟩
    refine k _ _ (s3.setd (r2.mono fun b zs e2 => ?_) i)
    have e4 := tk3 b zs e2
    rw [upd_ne]
    · exact e4
    · intro z; subst z; rw [e3] at e4; cases e4
/-- [list(row) for row in rows]: new lists, told by the world from then on -/
theorem mk_ll {i : Nat} {rows : List (List D)} {Q : VK} (s : Sl (Wq C) B Γ σ H) (hx : ED (Wq C) tx Γ (.tup (rows.map D.tup))) (hl : rows.length ≤ 100000) (hi : i < Γ.length)
    (k : ∀ (p : Addr) (ps : List Addr) (H' : Hp), ps.length = rows.length → (p :: ps).Nodup → (∀ a ∈ p :: ps, B a = none ∧ ∀ ds, (a, ds) ∉ C) → Sl (Wq ((p, ps.map fun a => D.raw (.ref a)) :: (ps.zip rows ++ C))) B Γ σ H' → Q (.ref p) H') :
    tLc (iTup K tx) (gName i) tYes (tCB (rListS K) (tCons (tVar i) tNil)) [i] σ H Q := by
  refine hx B σ H s _ fun v y H1 x1 r e => ?_
  subst e
  cases r with
  | tup e l =>
  rename_i a0 xs0
  refine ⟨a0, rfl, ⟨_, .of e⟩, ?_⟩
  intro Da hD
  have hm : ¬ (Wq C).M Da := notM x1.2 hD
  have hlen : xs0.length = rows.length := by rw [l.length, List.length_map]
  let Pv : Nat → Hp → Prop := fun n H2 => Xt (Wq C) H1 H2 ∧ ∃ ps : List Addr, ps.length = n ∧ H2 Da = some (.lst (ps.map V.ref)) ∧ ps.Nodup ∧ (∀ p ∈ ps, H1 p = none ∧ p ≠ Da) ∧ ∀ (j : Nat) (p : Addr) (row : List D), ps[j]? = some p → rows[j]? = some row → ∃ xs, H2 p = some (.lst xs) ∧ RpL H2 xs row
  refine lc_tup (K := K) (a := a0) (xs := xs0) Pv ⟨Xt.new x1.2 hD, [], rfl, upd_same, List.nodup_nil, by simp, by simp⟩ (fun n H2 _ h => .of (h.1.tk x1.2 _ _ e)) ?_ ?_
  · rintro n v H2 hv ⟨x2, ps, hps, eD, nd, hp1, hp2⟩
    have tk2 := x2.tk x1.2
    obtain ⟨d, hd, rd⟩ := l.get' hv
    obtain ⟨row, hrow, rfl⟩ : ∃ row, rows[n]? = some row ∧ D.tup row = d := by simpa using hd
    have rd2 := rd.mono tk2
    cases rd2 with
    | tup e2 l2 =>
    rename_i b ys
    have hin : n < rows.length := lt_of_get hrow
    have sw := (((s.mono x1).mono x2).wipe [i])
    have s2 : Sl (Wq C) B ((wipeG Γ [i]).set i (.d (.tup row))) ((wipe σ [i]).set i (some (.ref b))) H2 := sw.setd (.tup e2 l2) i
    show wipe ((wipe σ [i]).set i (some (.ref b))) [i] = wipe σ [i] ∧ _
    refine ⟨wipe_of (is := [i]) (by rw [List.length_set, wipe_length]) (fun j hj => List.getElem?_set_ne (fun z => hj (by simp [z]))) (fun _ h => h), ?_⟩
    refine tYes_of ?_
    rw [if_pos rfl]
    have hv1 : ((wipeG Γ [i]).set i (.d (.tup row)))[i]? = some (.d (.tup row)) := List.getElem?_set_self (by simp [wipeG]; exact hi)
    refine el_listT (K := K) (W := Wq C) (ed_var hv1) B _ H2 s2 _ fun p xs es H3 hn3 x3 e3 r3 he => ?_
    subst he
    have hn1 : H1 p = none := x2.free x1.2 hn3
    have eD3 : H3 Da = some (.lst (ps.map V.ref)) := x3.1 _ _ eD hm
    have hpD : p ≠ Da := fun z => by subst z; rw [eD] at hn3; cases hn3
    refine ⟨_, eD3, ?_, ?_⟩
    · rw [List.length_map]
      exact Nat.lt_of_lt_of_le (show ps.length < 100000 by omega) (by decide)
    have tkD : Tk H3 (L2.upd H3 Da (.lst (ps.map V.ref ++ [V.ref p]))) := fun c zs ec => by
      rw [upd_ne]
      · exact ec
      · intro z; subst z; rw [eD3] at ec; cases ec
    refine ⟨(x2.trans x3).put x3.2 hD hm (fun xs ec => by rw [eD3] at ec; cases ec), ps ++ [p], by simp [hps], by rw [upd_same, List.map_append]; rfl, ?_, ?_, ?_⟩
    · rw [List.nodup_append]
      refine ⟨nd, by simp, ?_⟩
      intro c hc d hd z
      simp at hd
      subst hd
      subst z
      obtain ⟨j, hj⟩ := List.getElem?_of_mem hc
      have hjl := lt_of_get hj
      obtain ⟨xs', q1, _⟩ := hp2 j c rows[j] hj (List.getElem?_eq_getElem (by omega))
      rw [hn3] at q1
      cases q1
    · intro c hc
      rcases List.mem_append.mp hc with hc | hc
      · exact hp1 c hc
      · simp at hc
        subst hc
        exact ⟨hn1, hpD⟩
    · intro j c rw' hj hr'
      by_cases hjn : j < n
      · rw [List.getElem?_append_left (by omega)] at hj
        obtain ⟨xs', q1, q2⟩ := hp2 j c rw' hj hr'
        have hcD : c ≠ Da := (hp1 c (List.mem_of_getElem? hj)).2
        have ncM : ¬ (Wq C).M c := notM x1.2 (hp1 c (List.mem_of_getElem? hj)).1
        exact ⟨xs', by rw [upd_ne hcD]; exact x3.1 _ _ q1 ncM, (q2.mono (x3.tk x2.2)).mono tkD⟩
      · have hj2 : j = n := by
          have := lt_of_get hj
          simp at this
          omega
        subst hj2
        rw [List.getElem?_append_right (by omega), hps, Nat.sub_self] at hj
        simp at hj
        subst hj
        rw [hrow] at hr'
        cases hr'
        exact ⟨xs, by rw [upd_ne hpD]; exact e3, r3.mono tkD⟩
  · rintro H2 ⟨x2, ps, hps, eD, nd, hp1, hp2⟩
    rw [hlen] at hps
    refine k Da ps H2 hps (List.nodup_cons.mpr ⟨fun h => (hp1 Da h).2 rfl, nd⟩) ?_ ?_
    · intro c hc
      rcases List.mem_cons.mp hc with rfl | hc
      · exact ⟨Xt.fr s.x (x1.free s.i hD), fun ds hmem => hm ⟨ds, hmem⟩⟩
      · exact ⟨Xt.fr s.x (x1.free s.i (hp1 c hc).1), fun ds hmem => notM x1.2 (hp1 c hc).1 ⟨ds, hmem⟩⟩
    · have s1 := (s.mono x1).mono x2
      have fresh : ∀ c, (∃ ds, (c, ds) ∈ (Da, ps.map fun a => D.raw (.ref a)) :: (ps.zip rows ++ C)) → ¬ (∃ ds, (c, ds) ∈ C) → H c = none := by
        rintro c ⟨ds, hmem⟩ hn
        rcases List.mem_cons.mp hmem with h | h
        · cases h; exact x1.free s.i hD
        · rcases List.mem_append.mp h with h | h
          · exact x1.free s.i (hp1 c (List.of_mem_zip h).1).1
          · exact absurd ⟨ds, h⟩ hn
      refine ⟨⟨fun c o ec nm => s1.x.1 c o ec fun m => nm (by obtain ⟨ds, h⟩ := m; exact ⟨ds, List.mem_cons_of_mem _ (List.mem_append_right _ h)⟩), ?_⟩, s1.len, s1.da, fun j ds ej => ?_, s1.ra, s1.ne⟩
      · intro c ds hmem
        rcases List.mem_cons.mp hmem with h | h
        · cases h
          refine ⟨_, eD, ?_⟩
          have : ∀ l : List Addr, RpL H2 (l.map V.ref) (l.map fun a => D.raw (.ref a)) := fun l => by
            induction l with
            | nil => exact .nil
            | cons a l ih => exact .cons (.raw _) ih
          exact this ps
        · rcases List.mem_append.mp h with h | h
          · obtain ⟨j, hj⟩ := List.getElem?_of_mem h
            rw [List.getElem?_zip_eq_some] at hj
            exact hp2 j c ds hj.1 hj.2
          · exact s1.i c ds h
      · obtain ⟨p, xs, g1, g2, g3, g4, g5⟩ := s1.li j ds ej
        refine ⟨p, xs, g1, g2, g3, g4, fun m => ?_⟩
        obtain ⟨p', xs', f1, f2, f3, f4, f5⟩ := s.li j ds ej
        rw [g1] at f1; cases f1
        rw [fresh p m g5] at f2
        cases f2
theorem run_ll {i m : Nat} {rows : List (List D)} (s : Sl (Wq C) B Γ σ H) (hx : ED (Wq C) tx Γ (.tup (rows.map D.tup))) (hl : rows.length ≤ 100000) (hi : i < Γ.length)
    (k : ∀ (p : Addr) (ps : List Addr) (σ' : L2.St) (H' : Hp), ps.length = rows.length → (p :: ps).Nodup → (∀ a ∈ p :: ps, B a = none ∧ ∀ ds, (a, ds) ∉ C) → Sl (Wq ((p, ps.map fun a => D.raw (.ref a)) :: (ps.zip rows ++ C))) B (Γ.set m (.d (.raw (.ref p)))) σ' H' → u Dn σ' H') :
    tSeq (tAsg (tLc (iTup K tx) (gName i) tYes (tCB (rListS K) (tCons (tVar i) tNil)) [i]) (gName m)) u Dn σ H := by
  have h : tLc (iTup K tx) (gName i) tYes (tCB (rListS K) (tCons (tVar i) tNil)) [i] σ H (fun v H' => u Dn (σ.set m (some v)) H') := mk_ll s hx hl hi fun p ps H' h1 h2 h3 s' => k p ps _ H' h1 h2 h3 (s'.setd (.raw (.ref p)) m)
  exact h
/-- for x in range(i, j, -1), from one state to the next -/
theorem run_down {W : Wd} {ta : TA} {i j : Int} {g : TG} {tb : TS} (s : Sl W B Γ σ H) (h : EA W ta Γ [.int i, .int j, .int (-1)]) (h1 : -(2 ^ 62) ≤ i) (h2 : i < 2 ^ 62) (h3 : -(2 ^ 62) ≤ j) (h4 : j < 2 ^ 62)
    (Pv : Nat → L2.St → Hp → Prop) (h0 : ∀ H', Sl W B Γ σ H' → Pv 0 σ H')
    (hs : ∀ (t : Nat) (σ : L2.St) (H : Hp), t < (i - j).toNat → Pv t σ H → g (.int (i + (t : Int) * (-1))) σ H fun σ2 H2 => tb { nx := Pv (t + 1), rt := Dn.rt, bk := u Dn, ct := Pv (t + 1) } σ2 H2)
    (hd : ∀ σ H, Pv (i - j).toNat σ H → u Dn σ H) : tSeq (tFor (iRng3 ta) g tb) u Dn σ H :=
  h B σ H s _ fun vs ys H1 x r e => by
    subst e
    cases r with
    | cons a r =>
    cases r with
    | cons b r =>
    cases r with
    | cons c r =>
    cases r; cases a; cases b; cases c
    exact ⟨i, j, -1, _, rfl, RgC.neg h1 h2 h3 h4, for_rangeC Pv (h0 H1 (s.mono x)) (fun t σ H ht p => hs t σ H ht p) hd⟩
end
end Ly

set_option Elab.async false
set_option maxRecDepth 100000
set_option linter.unusedVariables false
namespace Ly
open PySem L2
section
variable {W : Wd} {Γ Γ' : List AV} {te ta tb : TE} {ds es : List D} {K : PySem.W.Frag} {x y : D} {O : Out → Prop} {t u tbody : TS} {P : D → Prop} {A : List D → Prop} {tc : TT}
/-! ### comprehensions over an own list, over a range of some length -/
/-- an own list, by its contents: a comprehension's source -/
theorem ln_lcV {α : Type} {l : List α} {enc : α → D} {g : TG} {tt : TT} {vs is : List Nat} {i0 : Nat} {G : α → List AV} {b : α → Bool} {Pe : α → D → Prop} (hi : Γ[i0]? = some (.l (l.map enc))) (his : ∀ i ∈ is, i ∈ vs)
    (hg : ∀ x ∈ l, GD W g (enc x) (wipeG Γ vs) (G x) is) (ht : ∀ x ∈ l, ET W tt (G x) (b x)) (he : ∀ x ∈ l, b x = true → Dn W te (G x) (Pe x)) (hl : l.length ≤ 100000) :
    Ln W (tLc (iList K (tVar i0)) g tt te vs) Γ (fun es => Paired Pe (l.filter b) es) := fun B σ H s Q q => by
  obtain ⟨p, xs, a1, b1, c1, d1, m1⟩ := s.li i0 _ hi
  -- the slot as a raw value; the list is the world's
  refine ⟨_, a1, p, rfl, ⟨xs, .of b1⟩, ?_⟩
  intro Da hD
  have x1 : Xt W H H := Xt.refl s.i
  have jok : Jok W (Itl K p) H (l.map enc) := jok_lst s.i b1 m1 c1
  have hm : ¬ W.M Da := notM s.i hD
  have hlen : (l.map enc).length = l.length := List.length_map _
  let Pv : Nat → Hp → Prop := fun i H2 => i ≤ l.length ∧ Xt W H H2 ∧ ∃ acc es, H2 Da = some (.lst acc) ∧ RpL H2 acc es ∧ Paired Pe ((l.take i).filter b) es
  refine ⟨fun i m H2 => m = l.length - i ∧ Pv i H2, ⟨_, rfl, Nat.zero_le _, Xt.new s.i hD, [], [], upd_same, .nil, by simp; exact .nil⟩, ?_⟩
  rintro i m H2 ⟨rfl, hi, x2, acc, es, eD, rl, pr⟩
  by_cases h : i < l.length
  · refine .inr ⟨jok.go i H2 x2 (by rw [hlen]; exact h), fun H' => Pv (i + 1) H', fun H' p => ⟨_, by omega, rfl, p⟩, fun v H3 hy => ?_⟩
    have hd : l[i]? = some l[i] := List.getElem?_eq_getElem h
    have hmem : l[i] ∈ l := List.getElem_mem h
    obtain ⟨rv, x3⟩ := jok.yld i H2 v H3 x2 hy (enc l[i]) (by rw [List.getElem?_map, hd]; rfl)
    have x23 := x2.trans x3
    have s3 := (s.mono x23).wipe vs
    refine hg _ hmem B _ H3 v s3 rv _ fun σ' s4 e1 e2 => ⟨wipe_of (by rw [e1, wipe_length]) e2 his, ?_⟩
    refine ht _ hmem B σ' H3 s4 _ fun c H4 x4 ec => ?_
    subst ec
    have tks : (l.take (i + 1)) = l.take i ++ [l[i]] := take_succ_get hd
    cases hb : b l[i] with
    | false =>
      refine iteF ⟨h, x23.trans x4, acc, es, x4.1 _ _ (x3.1 _ _ eD hm) hm, rl.mono ((x3.trans x4).tk x2.2), ?_⟩
      rw [tks, List.filter_append]
      simpa [hb] using pr
    | true =>
      refine iteT (he _ hmem hb B σ' H4 (s4.mono x4) _ fun u y H5 x5 r5 p5 => ?_)
      have x35 := x3.trans (x4.trans x5)
      have eD5 : H5 Da = some (.lst acc) := x35.1 _ _ eD hm
      have z : acc.length < sizeLine := by
        have h1 := paired_len pr
        have h2 := rl.length
        have h3 : ((l.take i).filter b).length ≤ i := Nat.le_trans (List.length_filter_le _ _) (by simp; omega)
        exact Nat.lt_of_lt_of_le (show acc.length < 100000 by omega) (by decide)
      refine ⟨acc, eD5, z, h, (x2.trans x35).put x35.2 hD hm (fun xs e => by rw [eD5] at e; cases e), acc ++ [u], es ++ [y], upd_same, ?_, ?_⟩
      · refine RpL.mono (fun a xs e => ?_) _ _ ((rl.mono (x35.tk x2.2)).snoc r5)
        rw [upd_ne]
        · exact e
        · intro zz; subst zz; rw [eD5] at e; cases e
      · rw [tks, List.filter_append]
        simp only [List.filter_cons, hb, List.filter_nil, if_true]
        exact Paired.snoc pr p5
  · have hi' : i = l.length := by omega
    refine .inl ⟨jok.stop i H2 x2 (by rw [hlen]; omega), ?_⟩
    subst hi'
    rw [List.take_length] at pr
    exact q Da acc es H2 hD x2 eD rl pr
theorem el_filV {α : Type} {l : List α} {enc : α → D} {i0 i : Nat} {tt : TT} {b : α → Bool} {f : α → D} (hi : Γ[i0]? = some (.l (l.map enc))) (ht : ∀ x ∈ l, ET W tt ((Γ.set i .no).set i (.d (enc x))) (b x)) (he : ∀ x ∈ l, b x = true → ED W te ((Γ.set i .no).set i (.d (enc x))) (f x)) (hl : l.length ≤ 100000) :
    EL W (tLc (iList K (tVar i0)) (gName i) tt te [i]) Γ ((l.filter b).map f) := fun B σ H s Q q =>
  ln_lcV (G := fun x => (Γ.set i .no).set i (.d (enc x))) (is := [i]) (Pe := fun x y => y = f x) hi (fun _ h => h) (fun _ _ => gd_name) ht he hl B σ H s Q fun p xs es H' n x e r a => q p xs es H' n x e r (paired_map a)
/-- a source that has come -/
def wi0 (n : Nat) : TI := fun σ H R => R (Itr 0 n) H
theorem wd_0 (n : Nat) : WalkD W (wi0 n) Γ (rangeD 0 n) := fun B σ H s R q => q _ H (Xt.refl s.i) fun B1 i1 tk fr => jok_rng
theorem paired_mem {α β : Type} {F : α → β → Prop} {Pb : β → Prop} (h : ∀ a b, F a b → Pb b) : ∀ {l₁ : List α} {l₂ : List β}, Paired F l₁ l₂ → ∀ b ∈ l₂, Pb b
  | _, _, .nil, b, hb => by simp at hb
  | _, _, .cons r t, b, hb => by
    rcases List.mem_cons.mp hb with rfl | hb
    · exact h _ _ r
    · exact paired_mem h t b hb
/-- [elt for k in range(e)], e some number below m -/
theorem ln_rngN {m : Int} {i : Nat} {Pe : D → Prop} (h : Dn W ta Γ (fun y => ∃ n : Int, y = .int n ∧ 0 ≤ n ∧ n < m)) (hm : m ≤ 100000) (he : ∀ k : Nat, Dn W te ((Γ.set i .no).set i (.d (.int (0 + (k : Int))))) Pe) :
    Ln W (tLc (iRng1 (tCons ta tNil)) (gName i) tYes te [i]) Γ (fun es => (es.length : Int) < m ∧ ∀ e ∈ es, Pe e) := fun B σ H s Q q =>
  h B σ H s _ fun v y H1 x1 r1 ⟨n, e, h0, h1⟩ => by
    subst e
    cases r1
    refine ⟨n, rfl, by omega, by omega, ?_⟩
    have key := ln_map (W := W) (l := List.range n.toNat) (enc := fun (k : Nat) => D.int (0 + (k : Int))) (wi := wi0 n.toNat) (i := i) (Pe := fun _ y => Pe y) (te := te) (Γ := Γ) (wd_0 n.toNat) (fun k _ => he k) (by rw [List.length_range]; omega)
    exact key B σ H1 (s.mono x1) Q fun p xs es H' nn x e r pr => q p xs es H' (x1.free s.i nn) (x1.trans x) e r ⟨by have := paired_len pr; rw [List.length_range] at this; omega, paired_mem (F := fun _ y => Pe y) (Pb := Pe) (fun _ _ z => z) pr⟩
/-! ### statements with own lists -/
/-- a, b = two new lists -/
theorem sv_par2L {i j : Nat} (hij : i ≠ j) (ha : EL W ta Γ ds) (hb : EL W tb Γ es) (k : SV W u ((Γ.set i (.l ds)).set j (.l es)) O) : SV W (tSeq (tAsg (tTup (tCons ta (tCons tb tNil))) (gTup K 2 (gCons (gName i) (gCons (gName j) gNil)))) u) Γ O := fun B σ H s D d =>
  ha B σ H s _ fun p xs fs H1 n1 x1 e1 r1 a1 => hb B σ H1 (s.mono x1) _ fun q ys gs H2 n2 x2 e2 r2 a2 => by
    subst a1; subst a2
    refine ⟨by show 2 ≤ sizeLine; decide, fun tp hp => ⟨tp, _, rfl, .of upd_same, rfl, _, _, rfl, _, _, rfl, rfl, ?_⟩⟩
    have x3 : Xt W H2 (upd H2 tp (.tup [.ref p, .ref q])) := Xt.new x2.2 hp
    have s3 := ((s.mono x1).mono x2).mono x3
    have m1 : ¬ W.M p := notM s.i n1
    have m2 : ¬ W.M q := notM x1.2 n2
    have hq : H q = none := x1.free s.i n2
    have hpq : p ≠ q := fun z => by subst z; rw [e1] at n2; cases n2
    have own : ∀ {a : Addr}, H a = none → ∀ (j : Nat) (es : List Ly.D), Γ[j]? = some (.l es) → σ[j]? ≠ some (some (.ref a)) := fun {a} ha j es e1 e2 => by
      obtain ⟨q, zs, g1, g2, _⟩ := s.li j es e1
      rw [e2] at g1; cases g1
      rw [ha] at g2; cases g2
    have s4 := s3.setl (p := p) (x3.1 _ _ (x2.1 _ _ e1 m1) m1) ((r1.mono (x2.tk x1.2)).mono (x3.tk x2.2)) (Xt.fr s.x n1) m1 (own n1) i
    refine k B _ _ (s4.setl (p := q) (x3.1 _ _ e2 m2) (r2.mono (x3.tk x2.2)) (Xt.fr s.x hq) m2 (fun l fs h1 h2 => ?_) j) D d
    rcases set_get h1 with ⟨rfl, z⟩ | ⟨nl, z⟩
    · rw [set_len_get s3.len h1] at h2
      cases h2
      exact hpq rfl
    · rw [List.getElem?_set_ne nl] at h2
      exact own hq l fs z h2
/-- xs != [] , xs an own list -/
theorem et_neNil {i : Nat} (hi : Γ[i]? = some (.l ds)) (hf : (D.tup ds).fine = true) : ET W (tTest (tOp (rNeU K) (tVar i) (tLst tNil))) Γ (!ds.isEmpty) := fun B σ H s Q q => by
  obtain ⟨p, xs, a, b, c, e, m⟩ := s.li i ds hi
  refine ⟨_, a, by show 0 ≤ sizeLine; decide, fun p2 hp2 => ?_⟩
  have x1 : Xt W H (upd H p2 (.lst [])) := Xt.new s.i hp2
  have hf' : (D.tup ds).nty = true ∧ SeqAt.shaped (D.tup ds).py = true := by simpa [D.fine] using hf
  have hn : D.ntys ds = true := by simpa [D.nty] using hf'.1
  have hsh : SeqAt.shaped (PyData.list (D.pys ds)) = true := by
    have := hf'.2
    simp only [D.py, SeqAt.shaped, PyData.canLay0, PyData.depth] at this ⊢
    exact this
  refine .inr ⟨.list (D.pys ds), .list [], .lst (.of (x1.1 _ _ b m)) (RpL.dp K _ _ hn (c.mono (x1.tk s.i))), .lst (.of upd_same) .nil, hsh, by decide +kernel, _, rfl, q _ _ x1 ?_⟩
  cases ds with
  | nil => simp [D.pys, PyData.eqv, PyData.eqvAll]
  | cons d ds => simp [D.pys, PyData.eqv, PyData.eqvAll]
/-- p.append(left.pop(e)), e some place of left -/
theorem sv_appPop {i j : Nat} {es : List D} (hij : i ≠ j) (hi : Γ[i]? = some (.l es)) (hj : Γ[j]? = some (.l ds)) (h : Dn W te Γ (fun y => ∃ n : Int, y = .int n ∧ 0 ≤ n ∧ n < (ds.length : Int))) (hl : es.length < 100000) (hd : ds.length ≤ 100000)
    (k : ∀ (n : Nat) (x : D), ds[n]? = some x → SV W u ((Γ.set j (.l (ds.eraseIdx n))).set i (.l (es ++ [x]))) O) : SV W (tSeq (tDrop (tBM K "list" rAppend (tVar i) (tCons (tBM K "list" rPopAt (tVar j) (tCons te tNil)) tNil))) u) Γ O := fun B σ H s D d => by
  obtain ⟨p, xs, a, b, c, e, m⟩ := s.li i es hi
  obtain ⟨q, ys, a2, b2, c2, e2, m2⟩ := s.li j ds hj
  have hpq : p ≠ q := fun z => by subst z; exact s.ne i j es ds p hij hi hj a a2
  refine ⟨_, a, .inl ⟨rfl, _, .of b⟩, _, a2, .inl ⟨rfl, _, .of b2⟩, h B σ H s _ fun v y H1 x1 r1 ⟨n, en, h0, h1⟩ => ?_⟩
  subst en
  cases r1
  obtain ⟨n, rfl⟩ := Int.eq_ofNat_of_zero_le h0
  have hn : n < ds.length := by omega
  have b2' := x1.1 _ _ b2 m2
  have c2' := c2.mono (x1.tk s.i)
  obtain ⟨w, g1, g2⟩ := c2'.get (List.getElem?_eq_getElem hn)
  have hys : ys.length = ds.length := c2.length
  refine ⟨q, ys, (n : Int), n, w, rfl, rfl, b2', by omega, by omega, ?_, g1, ?_⟩
  · unfold seqIndex?
    rw [hys]
    simp
    omega
  have s1 := (s.mono x1).upd hj a2 (c2'.eraseIdx n)
  have tk1 : Tk H1 (upd H1 q (.lst (ys.eraseIdx n))) := fun a xs e => by
    rw [upd_ne]
    · exact e
    · intro z; subst z; rw [b2'] at e; cases e
  refine ⟨p, xs, w, rfl, rfl, ?_, ?_, ?_⟩
  · rw [upd_ne hpq]; exact x1.1 _ _ b m
  · rw [c.length]; exact Nat.lt_of_lt_of_le hl (by decide)
  · refine k n _ (List.getElem?_eq_getElem hn) B σ _ (s1.upd (by rw [List.getElem?_set_ne hij.symm]; exact hi) a ?_) D d
    exact ((c.mono (x1.tk s.i)).mono tk1).snoc (g2.mono tk1)
/-- while -/
theorem sv_while (G : Nat → List AV → Prop) {m : Nat} (h0 : G m Γ) (hs : ∀ m Γ1, G m Γ1 → ∃ b, ET W tc Γ1 b ∧ (b = true → SV W tbody Γ1 (Turned W u (fun Γ' => ∃ m', m' < m ∧ G m' Γ') O)) ∧ (b = false → SV W u Γ1 O)) : SV W (tSeq (tWhile tc tbody) u) Γ O := fun B σ H s D d => by
  refine ⟨fun m σ H => ∃ Γ1, G m Γ1 ∧ Sl W B Γ1 σ H, ⟨m, Γ, h0, s⟩, ?_⟩
  rintro m σ H ⟨Γ1, g, s1⟩
  obtain ⟨b, et, h1, h2⟩ := hs m Γ1 g
  refine et B σ H s1 _ fun c H' x e => ?_
  subst e
  cases c with
  | true =>
    refine iteT ⟨fun σ' H' => ∃ m', m' < m ∧ ∃ Γ', G m' Γ' ∧ Sl W B Γ' σ' H', fun σ' H' h => h, ?_⟩
    exact h1 rfl B σ H' (s1.mono x) _ ⟨fun Γ' σ' H' ⟨m', l, g'⟩ s' => ⟨m', l, Γ', g', s'⟩, d.rt, d.rl, fun Γ' σ' H' o s' => o B σ' H' s' D d, fun Γ' σ' H' ⟨m', l, g'⟩ s' => ⟨m', l, Γ', g', s'⟩⟩
  | false => exact iteF (h2 rfl B σ H' (s1.mono x) D d)
/-- xs.index(k), ints -/
theorem ed_index {ns : List Int} {z : Int} {j : Nat} (ha : ER W ta Γ (ns.map D.int)) (hb : ED W te Γ (.int z)) (hj : ns[j]? = some z) (hf : ∀ m, m < j → ns[m]? ≠ some z) : ED W (tBM K "list" (rIndex K) ta (tCons te tNil)) Γ (.int (j : Int)) := fun B σ H s Q q =>
  ha B σ H s _ fun p xs H1 x1 e1 m1 r1 => by
    refine ⟨.inl ⟨rfl, _, .of e1⟩, hb B σ H1 (s.mono x1) _ fun v y H2 x2 r2 e2 => ?_⟩
    subst e2
    cases r2
    have e3 := x2.1 _ _ e1 m1
    rw [r1.of_ints] at e3
    refine ⟨p, ns.map V.int, .int z, j, .int z, rfl, rfl, .of e3, rfl, ?_, by rw [List.getElem?_map, hj]; rfl, by simp [eqV], fun m z' hm hz' => ?_, q _ _ H2 (x1.trans x2) (.int _) rfl⟩
    · rw [List.all_eq_true]
      intro v hv
      obtain ⟨n, _, rfl⟩ := List.mem_map.mp hv
      rfl
    · rw [List.getElem?_map] at hz'
      cases hn : ns[m]? with
      | none => rw [hn] at hz'; cases hz'
      | some n =>
        rw [hn] at hz'
        cases hz'
        have : n ≠ z := fun e => hf m hm (e ▸ hn)
        simp [eqV, this]
end
end Ly

set_option Elab.async false
namespace K51
/-! the mirror -/
/-- a row into which x is put: the row, and what it bumped -/
def insRow : List Nat → Nat → List Nat × Option Nat
  | [], x => ([x], none)
  | y :: r, x => if x < y then (x :: r, some y) else ((y :: (insRow r x).1), (insRow r x).2)
def ptIn : List (List Nat) → Nat → List (List Nat) × Nat
  | [], x => ([[x]], 0)
  | r :: rs, x => match (insRow r x).2 with
    | none => ((insRow r x).1 :: rs, 0)
    | some y => ((insRow r x).1 :: (ptIn rs y).1, (ptIn rs y).2 + 1)
def tab (w : List Nat) : List (List Nat) := w.foldl (fun t x => (ptIn t x).1) []
/-- k at the end of the i-th row, or as a row of its own -/
def addAt : List (List Nat) → Nat → Nat → List (List Nat)
  | [], _, k => [[k]]
  | r :: rs, 0, k => (r ++ [k]) :: rs
  | r :: rs, i + 1, k => r :: addAt rs i k
def pairStep (s : List (List Nat) × List (List Nat)) (xk : Nat × Nat) : List (List Nat) × List (List Nat) :=
  ((ptIn s.1 xk.1).1, addAt s.2 (ptIn s.1 xk.1).2 xk.2)
def pairOf (w : List Nat) : List (List Nat) × List (List Nat) := w.zipIdx.foldl pairStep ([], [])
/-- the greatest place with a number below x -/
def lastLt (r : List Nat) (x : Nat) : Option Nat := ((List.range r.length).filter fun j => decide (r.getD j 0 < x)).getLast?
/-- the rows above, from the one behind upwards -/
def unbump : List (List Nat) → Nat → Option (List (List Nat) × Nat)
  | [], x => some ([], x)
  | r :: rs, x => match unbump rs x with
    | none => none
    | some (rs', y) => match lastLt r y with
      | none => none
      | some j => some (r.set j y :: rs', r.getD j 0)
def rowWith (times : List (List Nat)) (k : Nat) : Option Nat := ((List.range times.length).filter fun i => decide ((times.getD i []).getLast? = some k)).head?
def wordStep (rows times : List (List Nat)) (k : Nat) : Option (List (List Nat) × List (List Nat) × Nat) :=
  match rowWith times k with
  | none => none
  | some i => match (rows.getD i []).getLast? with
    | none => none
    | some x => match unbump (rows.take i) x with
      | none => none
      | some (up, y) => some (up ++ ((rows.getD i []).dropLast :: rows.drop (i + 1)), times.set i (times.getD i []).dropLast, y)
/-- the last k numbers of the word, the last one first -/
def wordBack : Nat → List (List Nat) → List (List Nat) → Option (List Nat)
  | 0, _, _ => some []
  | k + 1, rows, times => match wordStep rows times k with
    | none => none
    | some (rows', times', y) => match wordBack k rows' times' with
      | none => none
      | some ys => some (y :: ys)
def wordOf (rows times : List (List Nat)) : Option (List Nat) := (wordBack ((rows.map List.length).sum) rows times).map List.reverse
def prod (l : List Nat) : Nat := l.foldl (· * ·) 1
def fac (n : Nat) : Nat := prod ((List.range n).map (· + 1))
def over (p : List Nat) : List Nat := (List.range (p.foldl max 0)).map fun k => (p.filter fun x => decide (k < x)).length
def hooks (p : List Nat) : List Nat := (List.range p.length).flatMap fun i => (List.range (p.getD i 0)).map fun k => p.getD i 0 + (over p).getD k 0 - (k + i + 1)
def countOrders (p : List Nat) : Nat := fac p.sum / prod (hooks p)
def shape (t : List (List Nat)) : List Nat := t.map List.length
def countWords (t : List (List Nat)) : Nat := countOrders (shape t)
/-- all partings of n with parts at most most (fuel) -/
def shapes : Nat → Nat → Nat → List (List Nat)
  | 0, _, _ => []
  | f + 1, n, most => if n = 0 then [[]] else (List.range (min n most)).flatMap fun k => (shapes f (n - (min n most - k)) (min n most - k)).map ((min n most - k) :: ·)
def turns : Nat → List (List Nat)
  | 0 => [[]]
  | n + 1 => (turns n).flatMap fun rest => (List.range (n + 1)).map fun k => rest.take k ++ n :: rest.drop k
def maxl (l : List Nat) : Nat := l.foldl max 0
def bestStep (falls : Bool) (acc : List (Nat × Nat)) (x : Nat) : List (Nat × Nat) :=
  acc ++ [(x, 1 + maxl ((acc.filter fun p => if falls then decide (x < p.1) else decide (p.1 ≤ x)).map (·.2)))]
def best (falls : Bool) (w : List Nat) : List (Nat × Nat) := w.foldl (bestStep falls) []
def longest (falls : Bool) (w : List Nat) : Nat := maxl ((best falls w).map (·.2))
def pops : Nat → List Nat → List (List Nat)
  | 0, _ => [[]]
  | n + 1, left => (List.range left.length).flatMap fun i => (pops n (left.eraseIdx i)).map (left.getD i 0 :: ·)
def backOf (p : List Nat) : List Nat := (List.range p.length).map fun k => p.findIdx (· == k)
def good (p : List Nat) : Bool :=
  decide (pairOf p = ((pairOf (backOf p)).2, (pairOf (backOf p)).1)) && decide (wordOf (pairOf p).2 (pairOf p).1 = some (backOf p))
def smallOf (p : List Nat) : List Nat := p.filter (· < 5)
def goodSmall (s : List Nat) : Bool := decide (countWords (tab s) = ((turns s.length).filter fun q => decide (tab q = tab s)).length)
def goodShapes (n : Nat) : Bool := decide ((((shapes (n + 1) n n).map fun p => countOrders p * countOrders p)).sum = (turns n).length)
end K51

set_option Elab.async false
set_option maxRecDepth 100000
set_option linter.unusedVariables false
set_option maxHeartbeats 4000000
namespace Ta
open PySem L2 Ly K51
def top (i : Nat) : Stmt := PySem.Challenge.pw_turnwarrant_k51_whole_tableaux_and_their.main.body.getD i (.Pass ⟨0, 0, 0, 0⟩)
abbrev sproduct_of : Stmt := top 1
abbrev sfactorial : Stmt := top 2
abbrev sover : Stmt := top 4
abbrev sput_in : Stmt := top 6
abbrev s_put_in : Stmt := top 7
abbrev stableau_of : Stmt := top 8
abbrev sshape_of : Stmt := top 9
abbrev scount_orders : Stmt := top 10
abbrev scount_words : Stmt := top 11
abbrev spair_of : Stmt := top 12
abbrev sword_of : Stmt := top 13
abbrev s_law_draws : Stmt := top 15
abbrev s_law_next : Stmt := top 16
abbrev s_law_pick : Stmt := top 17
abbrev s_law_same : Stmt := top 18
abbrev s_law_shapes : Stmt := top 19
abbrev s_law_turns : Stmt := top 20
abbrev s_law_longest : Stmt := top 21
abbrev slaw : Stmt := top 22
structure Txt (mg : Str → Option Value) : Prop where
  b_abs : mg "abs" = none
  b_bool : mg "bool" = none
  b_int : mg "int" = none
  b_isinstance : mg "isinstance" = none
  b_len : mg "len" = none
  b_list : mg "list" = none
  b_max : mg "max" = none
  b_min : mg "min" = none
  b_range : mg "range" = none
  b_reversed : mg "reversed" = none
  b_str : mg "str" = none
  b_sum : mg "sum" = none
  b_tuple : mg "tuple" = none
section
variable {P : Program} {w : World} {K : PySem.W.Frag} {mg : Str → Option Value} {base : Heap}
/-! ### product_of -/
def prodI (l : List Int) : Int := l.foldl (· * ·) 1
def spProd : Sp := fun vs H Q _ => ∃ (a : Addr) (ns : List Int), vs = [.ref a] ∧ H a = some (.lst (ns.map V.int)) ∧ (ns.length ≤ 100 ∧ ∀ z ∈ ns, z.natAbs < 2 ^ 16) ∧ Q (.int (prodI ns)) H
theorem prodI_take {ns : List Int} {i : Nat} {z : Int} (h : ns[i]? = some z) : prodI (ns.take (i + 1)) = prodI (ns.take i) * z := by
  unfold prodI
  rw [List.take_add_one, h]
  simp
theorem prodI_lt {ns : List Int} (hz : ∀ z ∈ ns, z.natAbs < 2 ^ 16) : ∀ i, (prodI (ns.take i)).natAbs < 2 ^ (16 * i + 1)
  | 0 => by show (1 : Int).natAbs < 2 ^ 1; decide
  | i + 1 => by
    have ih := prodI_lt hz i
    cases e : ns[i]? with
    | none =>
      rw [List.take_add_one, e]
      simp only [Option.toList_none, List.append_nil]
      exact Nat.lt_of_lt_of_le ih (Nat.pow_le_pow_right (by decide) (by omega))
    | some z =>
      rw [prodI_take e]
      have := wide_lt ih (hz z (List.mem_of_getElem? e))
      rw [show 16 * (i + 1) + 1 = 16 * i + 1 + 16 by omega]
      exact this
theorem scproduct_of : FnScope ["numbers", "found", "number"] ["numbers"] (defScope sproduct_of) := ⟨rfl, rfl, rfl, by decide +kernel, rfl, by decide +kernel, by decide +kernel⟩
theorem ok_prod {f : Addr} {fd : FuncData} (F : Fun K "product_of" "product_of" sproduct_of f fd) : FnOk P w K mg base CX0 1 f fd ["numbers"] spProd := by
  refine F.ok scproduct_of (fun vs H Q E h => ?_) (fun cdv A outer s H vs Q E hr h => ?_)
  · obtain ⟨a, ns, rfl, _⟩ := h
    rfl
  obtain ⟨a, ns, rfl, hS, ⟨h100, hz⟩, q⟩ := h
  refine ⟨_, (pss_cons (ps_set (i := 1) scproduct_of.nd rfl (by first | exact Or.inl rfl | exact Or.inr rfl) pe_int)
    (pss_cons (ps_for PassesOwn.never rfl (pi_list (pv 0)) (pg_name (i := 2) scproduct_of.nd rfl (by first | exact Or.inl rfl | exact Or.inr rfl))
      (pss_one (ps_set (i := 1) scproduct_of.nd rfl (by first | exact Or.inl rfl | exact Or.inr rfl) (pe_op op_mulW (pv 1) (pv 2)))))
    (pss_one (ps_ret (pv 1))))), ?_⟩
  refine ⟨_, rfl, a, rfl, ⟨_, .of hS⟩, for_list (K := K) (a := a) (xs := ns.map V.int) (fun i σ H2 => H2 = H ∧ ∃ v, σ = [some (.ref a), some (.int (prodI (ns.take i))), v]) ⟨rfl, none, rfl⟩ (fun i σ H2 _ h => h.1 ▸ .of hS) ?_ ?_⟩
  · rintro i y σ H2 hi ⟨rfl, v, rfl⟩
    obtain ⟨z, hz1, rfl⟩ : ∃ z, ns[i]? = some z ∧ V.int z = y := by simpa using hi
    have hil := lt_of_get hz1
    refine ⟨_, rfl, _, rfl, _, _, rfl, rfl, wide_mul (prodI_lt hz i) (hz z (List.mem_of_getElem? hz1)) (by omega) (by omega) (by omega), rfl, some (.int z), ?_⟩
    rw [prodI_take hz1]
    rfl
  · rintro σ H2 ⟨rfl, v, rfl⟩
    refine ⟨_, rfl, ?_⟩
    have e : ns.take (ns.map V.int).length = ns := by simp
    rw [e]
    exact q
/-- product_of called with a new list -/
theorem ed_prod {W : Wd} {Γ : List AV} {te : TE} {ns : List Int} (h : ER W te Γ (ns.map D.int)) (h1 : ns.length ≤ 100) (h2 : ∀ z ∈ ns, z.natAbs < 2 ^ 16) : ED W (tCall spProd [] E0 (tCons te tNil)) Γ (.int (prodI ns)) := fun B σ H s Q q =>
  h B σ H s _ fun p xs H1 x1 e m r => by
    rw [r.of_ints] at e
    exact ⟨p, ns, rfl, e, ⟨h1, h2⟩, q _ _ H1 x1 (.int _) rfl⟩
/-! ### factorial -/
def upTo (n : Nat) : List Int := (List.range n).map fun (i : Nat) => (1 : Int) + (i : Int)
def facI (n : Nat) : Int := prodI (upTo n)
theorem upTo_len (n : Nat) : (upTo n).length = n := by simp [upTo]
theorem upTo_lt {n : Nat} (h : n ≤ 100) : ∀ z ∈ upTo n, z.natAbs < 2 ^ 16 := by
  intro z hz
  unfold upTo at hz
  obtain ⟨i, hi, rfl⟩ := List.mem_map.mp hz
  have := List.mem_range.mp hi
  omega
theorem rangeD_upTo (n : Nat) : rangeD 1 n = (upTo n).map D.int := by
  unfold rangeD upTo
  rw [List.map_map]
  rfl
abbrev dI (n : Nat) : D := .int (n : Int)
abbrev dR (r : List Nat) : D := .tup (r.map dI)
abbrev dT (t : List (List Nat)) : D := .tup (t.map dR)
theorem rangeD_len (lo : Int) (n : Nat) : (rangeD lo n).length = n := by simp [rangeD]
theorem rangeD0 (n : Nat) : rangeD 0 n = (List.range n).map dI := by
  unfold rangeD
  congr 1
  funext i
  rw [Int.zero_add]
def RFac : List D → D → Prop := fun ds y => ∃ n : Nat, ds = [dI n] ∧ n ≤ 100 ∧ y = .int (facI n)
theorem scfactorial : FnScope ["n"] ["n"] (defScope sfactorial) := ⟨rfl, rfl, rfl, by decide +kernel, rfl, by decide +kernel, by decide +kernel⟩
theorem ok_fac {f : Addr} {fd : FuncData} (F : Fun K "factorial" "factorial" sfactorial f fd) (T : Txt mg) (hproduct_of : Df P w K mg base 1 "product_of" ["numbers"] spProd) : FnOk P w K mg base CX0 2 f fd ["n"] (spG RFac) := by
  refine fn_G F scfactorial (by rintro ds y ⟨n, rfl, _⟩; rfl) fun cdv A outer s H E hr ds y hd => ?_
  obtain ⟨n, rfl, hn, rfl⟩ := hd
  refine ⟨_, (pss_one (ps_ret (pe_df hproduct_of (hr.mono (by omega)) (by rfl) (pa_cons (pe_listRg rfl (by rfl) T.b_list (prg_2 (by rfl) T.b_range pe_int (pe_op op_addU (pv 0) pe_int))) pa_nil)))), ?_⟩
  have e : rangeD 1 ((n : Int) + 1 - 1).toNat = (upTo n).map D.int := by
    rw [rangeD_upTo]
    congr 2
    omega
  exact sv_ret (ed_prod (ns := upTo n) ((el_lstRg2 ed_int (ed_addI (ed_var rfl) ed_int) (by omega) (by omega) (by omega) (by omega)).to e).er (by rw [upTo_len]; exact hn) (upTo_lt hn)) rfl
/-! ### over -/
theorem maxl_mem : ∀ (p : List Nat) (a : Nat), p.foldl max a ∈ a :: p ∧ ∀ y ∈ a :: p, y ≤ p.foldl max a
  | [], a => by simp
  | b :: p, a => by
    obtain ⟨h1, h2⟩ := maxl_mem p (max a b)
    rw [List.foldl_cons]
    refine ⟨?_, fun y hy => ?_⟩
    · rcases List.mem_cons.mp h1 with h | h
      · rw [h]
        rcases Nat.le_total a b with q | q
        · rw [Nat.max_eq_right q]; simp
        · rw [Nat.max_eq_left q]; simp
      · exact List.mem_cons_of_mem _ (List.mem_cons_of_mem _ h)
    · have h3 := h2 (max a b) List.mem_cons_self
      rcases List.mem_cons.mp hy with rfl | hy
      · omega
      · rcases List.mem_cons.mp hy with rfl | hy
        · omega
        · exact h2 y (List.mem_cons_of_mem _ hy)
theorem maxl_le {p : List Nat} {m : Nat} (h : ∀ y ∈ p, y ≤ m) : maxl p ≤ m := by
  obtain ⟨h1, _⟩ := maxl_mem p 0
  rcases List.mem_cons.mp h1 with e | e
  · unfold maxl; omega
  · exact h _ e
theorem map_ints (p : List Nat) : p.map dI = (p.map fun (n : Nat) => (n : Int)).map D.int := by
  rw [List.map_map]
  rfl
def ROver : List D → D → Prop := fun ds y => ∃ p : List Nat, ds = [dR p] ∧ p.length ≤ 100 ∧ (∀ x ∈ p, x ≤ 100) ∧ y = dR (over p)
theorem scover : FnScope ["parting", "most", "number", "k"] ["parting"] (defScope sover) := ⟨rfl, rfl, rfl, by decide +kernel, rfl, by decide +kernel, by decide +kernel⟩
theorem ok_over {f : Addr} {fd : FuncData} (F : Fun K "over" "over" sover f fd) (T : Txt mg) : FnOk P w K mg base CX0 1 f fd ["parting"] (spG ROver) := by
  refine fn_G F scover (by rintro ds y ⟨n, rfl, _⟩; rfl) fun cdv A outer s H E hr ds y hd => ?_
  obtain ⟨p, rfl, hp, hm, rfl⟩ := hd
  refine ⟨_, (pss_cons (ps_set (i := 1) scover.nd rfl (by first | exact Or.inl rfl | exact Or.inr rfl) (pe_callBK (call_maxDf rfl (hr.units)) (by rfl) T.b_max bt_max (pa_cons (pv 0) pa_nil) (pk_cons pe_int pk_nil)))
    (pss_one (ps_ret (pe_callTy call_tupS (by rfl) T.b_tuple bt_tuple (pa_cons (pe_lc (own := [("k", 3)]) (g := (gName 3)) (tt := tYes) (te := (tCB (rLenS K) (tCons (tLc (iTup K (tVar 0)) (gName 2) (tTest (tOp rGtI (tVar 2) (tVar 3))) (tVar 2) [2]) tNil))) rfl scover.nd (pi_range1 (by rfl) T.b_range (pa_cons (pv 1) pa_nil)) (blkOk_by (by kernel_rfl)) (fun _ _ _ _ _ => (pg_name (i := 3) scover.nd rfl (by first | exact Or.inl rfl | exact Or.inr rfl))) (fun _ _ _ _ _ => pts_nil) (fun _ _ _ _ _ => (pe_callB call_lenS (by rfl) T.b_len bt_len (pa_cons (pe_lc (own := [("number", 2)]) (g := (gName 2)) (tt := (tTest (tOp rGtI (tVar 2) (tVar 3)))) (te := (tVar 2)) rfl scover.nd (pi_tup (pv 0)) (blkOk_by (by kernel_rfl)) (fun _ _ _ _ _ => (pg_name (i := 2) scover.nd rfl (by first | exact Or.inl rfl | exact Or.inr rfl))) (fun _ _ _ _ _ => (pts_one (pt_cmpR op_gt (pv 2) (pv 3) (nomark _)))) (fun _ _ _ _ _ => (pv 2))) pa_nil)))) pa_nil))))), ?_⟩
  obtain ⟨m1, m2⟩ := maxl_mem p 0
  refine sv_set (x := dI (maxl p)) (ed_maxDf (ns := p.map fun (n : Nat) => (n : Int)) ((ed_var rfl).to (congrArg D.tup (map_ints p))) ed_int (fun h => ?_) fun h => ⟨?_, fun y hy => ?_⟩) ?_
  · rw [List.map_eq_nil_iff] at h
    subst h
    rfl
  · rcases List.mem_cons.mp m1 with q | q
    · cases p with
      | nil => exact absurd rfl h
      | cons a r =>
        have q0 : a = 0 := by
          have := m2 a (by simp)
          omega
        exact List.mem_map.mpr ⟨a, by simp, by unfold maxl; rw [q, q0]⟩
    · exact List.mem_map.mpr ⟨_, q, rfl⟩
  · obtain ⟨x, hx, rfl⟩ := List.mem_map.mp hy
    exact Int.ofNat_le.mpr (m2 x (List.mem_cons_of_mem _ hx))
  · have hmx : maxl p ≤ 100 := maxl_le hm
    refine sv_ret (ed_tupR (el_map (l := List.range (maxl p)) (enc := dI) (f := fun k => dI (p.filter fun x => decide (k < x)).length) ?_ (fun k hk => ?_) (by rw [List.length_range]; omega)).er) ?_
    · have := wd_rng1 (W := W0) (Γ := (start0 ["parting", "most", "number", "k"] [dR p]).set 1 (.d (dI (maxl p)))) (j := (maxl p : Int)) (ea_cons (ed_var (i := 1) rfl) an_nil) (by omega) (by omega)
      rw [Int.toNat_natCast, rangeD0] at this
      exact this
    · refine (ed_lenL (el_fil (l := p) (enc := dI) (b := fun x => decide (k < x)) (f := dI) (wd_tup (ed_var rfl)) (fun x hx => (et_test (ed_gt (ed_var rfl) (ed_var rfl))).to ?_) (fun x hx _ => ed_var rfl) (by omega)).er).to ?_
      · simp
      · simp
    · show Out.rt (.tup _) = .rt (.tup ((K51.over p).map dI))
      unfold K51.over
      rw [List.map_map]
      rfl
/-! ### _put_in -/
/-- the places of the numbers above x -/
def gr (r : List Nat) (x : Nat) : List Nat := (List.range r.length).filter fun k => decide (x < r.getD k 0)
theorem gr_cons (y : Nat) (r : List Nat) (x : Nat) : gr (y :: r) x = if x < y then 0 :: (gr r x).map (· + 1) else (gr r x).map (· + 1) := by
  unfold gr
  rw [List.length_cons, List.range_succ_eq_map, List.filter_cons, List.filter_map]
  simp only [List.getD_cons_zero, decide_eq_true_eq]
  rfl
theorem ins_nil : ∀ {r : List Nat} {x : Nat}, gr r x = [] → insRow r x = (r ++ [x], none)
  | [], x, _ => rfl
  | y :: r, x, h => by
    rw [gr_cons] at h
    by_cases q : x < y
    · rw [if_pos q] at h; cases h
    · rw [if_neg q, List.map_eq_nil_iff] at h
      have ih := ins_nil h
      rw [insRow, if_neg q, ih]
      rfl
theorem ins_at : ∀ {r : List Nat} {x k : Nat} {ks : List Nat}, gr r x = k :: ks → k < r.length ∧ insRow r x = (r.take k ++ [x] ++ r.drop (k + 1), some (r.getD k 0))
  | [], x, k, ks, h => by cases h
  | y :: r, x, k, ks, h => by
    rw [gr_cons] at h
    by_cases q : x < y
    · rw [if_pos q] at h
      injection h with h1 h2
      subst h1
      exact ⟨by simp, by rw [insRow, if_pos q]; simp⟩
    · rw [if_neg q] at h
      cases e : gr r x with
      | nil => rw [e] at h; cases h
      | cons j js =>
        rw [e, List.map_cons] at h
        injection h with h1 h2
        subst h1
        obtain ⟨a, b⟩ := ins_at e
        refine ⟨by simp; omega, ?_⟩
        rw [insRow, if_neg q, b]
        simp
/-- at most m rows, none longer than m -/
def Sz (m : Nat) (t : List (List Nat)) : Prop := t.length ≤ m ∧ ∀ r ∈ t, r.length ≤ m
theorem at0 {α : Type} {a : α} {l : List α} : L2.atI (a :: l) 0 = some a := atI_nat (j := 0) rfl
theorem at1 {α : Type} {a b : α} {l : List α} : L2.atI (a :: b :: l) 1 = some b := atI_nat (j := 1) rfl
theorem map_getE {α : Type} {l : List α} {f : α → D} {i : Nat} {a : α} (h : l[i]? = some a) : L2.atI (l.map f) (i : Int) = some (f a) := atI_nat (by rw [List.getElem?_map, h]; rfl)
theorem rangeE {n i : Nat} {x : D} (h : (rangeD 0 ((n : Int)).toNat)[i]? = some x) : i < n ∧ x = dI i := by
  obtain ⟨a, b⟩ := rangeD_get h
  rw [Int.toNat_natCast] at a
  exact ⟨a, by rw [b, Int.zero_add]⟩
def RPut : List D → D → Prop := fun ds y => ∃ (t : List (List Nat)) (x : Nat), ds = [dT t, dI x] ∧ Sz 1000 t ∧ y = .tup [dT (ptIn t x).1, dI (ptIn t x).2]
theorem sc_put_in : FnScope ["tableau", "number", "found", "i", "greater", "k", "row"] ["tableau", "number"] (defScope s_put_in) := ⟨rfl, rfl, rfl, by decide +kernel, rfl, by decide +kernel, by decide +kernel⟩
theorem ok_put0 {f : Addr} {fd : FuncData} (F : Fun K "_put_in" "_put_in" s_put_in f fd) (T : Txt mg) : FnOk P w K mg base CX0 1 f fd ["tableau", "number"] (spG RPut) := by
  refine fn_G F sc_put_in (by rintro ds y ⟨n, x, rfl, _⟩; rfl) fun cdv A outer s H E hr ds y hd => ?_
  obtain ⟨t, x, rfl, ⟨ht, hrow⟩, rfl⟩ := hd
  refine ⟨_, (pss_cons (ps_set (i := 2) sc_put_in.nd rfl (by first | exact Or.inl rfl | exact Or.inr rfl) (pe_callTy call_listS (by rfl) T.b_list bt_list (pa_cons (pv 0) pa_nil)))
    (pss_cons (ps_for PassesOwn.never rfl (pi_range1 (by rfl) T.b_range (pa_cons (pe_callB call_lenS (by rfl) T.b_len bt_len (pa_cons (pv 2) pa_nil)) pa_nil)) (pg_name (i := 3) sc_put_in.nd rfl (by first | exact Or.inl rfl | exact Or.inr rfl))
      (pss_cons (ps_setLc (i := 4) (own := [("k", 5)]) (g := (gName 5)) (tt := (tTest (tOp rGtI (tOp (rIx K) (tOp (rIx K) (tVar 2) (tVar 3)) (tVar 5)) (tVar 1)))) (te := (tVar 5)) rfl sc_put_in.nd rfl rfl (sw_true rfl rfl rfl (by decide +kernel)) (pi_range1 (by rfl) T.b_range (pa_cons (pe_callB call_lenS (by rfl) T.b_len bt_len (pa_cons (pe_ix ix_seq (pv 2) (pv 3) (fun _ _ => rfl)) pa_nil)) pa_nil)) (blkOk_by (by kernel_rfl)) (fun _ _ _ _ _ => (pg_name (i := 5) sc_put_in.nd rfl (by first | exact Or.inl rfl | exact Or.inr rfl))) (fun _ _ _ _ _ => (pts_one (pt_cmpR op_gt (pe_ix ix_seq (pe_ix ix_seq (pv 2) (pv 3) (fun _ _ => rfl)) (pv 5) (fun _ _ => rfl)) (pv 1) (nomark _)))) (fun _ _ _ _ _ => (pv 5)))
    (pss_cons (ps_if (pt_not (pt_tr (pv 4))) (pss_cons (ps_asg (pe_op op_addU (pe_ix ix_seq (pv 2) (pv 3) (fun _ _ => rfl)) (pe_tup (pa_cons (pv 1) pa_nil))) (pg_sub (pv 2) (pv 3) set_list))
    (pss_one (ps_ret (pe_tup (pa_cons (pe_callTy call_tupS (by rfl) T.b_tuple bt_tuple (pa_cons (pv 2) pa_nil)) (pa_cons (pv 3) pa_nil)))))) pss_nil)
    (pss_cons (ps_set (i := 5) sc_put_in.nd rfl (by first | exact Or.inl rfl | exact Or.inr rfl) (pe_ix ix_seq (pv 4) pe_int (fun _ _ => rfl)))
    (pss_cons (ps_set (i := 6) sc_put_in.nd rfl (by first | exact Or.inl rfl | exact Or.inr rfl) (pe_ix ix_seq (pv 2) (pv 3) (fun _ _ => rfl)))
    (pss_cons (ps_asg (pe_op op_addU (pe_op op_addU (pe_slice sl_tupA (pv 6) po_none (po_some (pv 5))) (pe_tup (pa_cons (pv 1) pa_nil))) (pe_slice sl_tupA (pv 6) (po_some (pe_op op_addU (pv 5) pe_int)) po_none)) (pg_sub (pv 2) (pv 3) set_list))
    (pss_one (ps_set (i := 1) sc_put_in.nd rfl (by first | exact Or.inl rfl | exact Or.inr rfl) (pe_ix ix_seq (pv 6) (pv 5) (fun _ _ => rfl))))))))))
    (pss_one (ps_ret (pe_tup (pa_cons (pe_op op_addU (pe_callTy call_tupS (by rfl) T.b_tuple bt_tuple (pa_cons (pv 2) pa_nil)) (pe_tup (pa_cons (pe_tup (pa_cons (pv 1) pa_nil)) pa_nil))) (pa_cons (pe_callB call_lenS (by rfl) T.b_len bt_len (pa_cons (pv 2) pa_nil)) pa_nil))))))), ?_⟩
  show SV W0 _ [.d (dT t), .d (dI x), .no, .no, .no, .no, .no] _
  refine sv_setL (el_listT (ed_var rfl)) fun ds e => ?_
  subst e
  refine sv_for (is := [3]) (fun i Γ1 => ∃ (done rest : List (List Nat)) (z : Nat) (a b c d : AV), Γ1 = [.d (dT t), .d (dI z), .l ((done ++ rest).map dR), a, b, c, d] ∧ done.length = i ∧ (done ++ rest).length = t.length ∧ (∀ r ∈ rest, r.length ≤ 1000) ∧ ptIn t x = (done ++ (ptIn rest z).1, i + (ptIn rest z).2))
    (wd_rng1 (ea_cons (ed_lenL (er_var rfl)) an_nil) (by omega) (by simp; omega)) ⟨[], t, x, _, _, _, _, rfl, rfl, rfl, hrow, by simp⟩ ?_ ?_
  · rintro i xi Γ1 hx ⟨done, rest, z, a, b, c, d, rfl, hdone, hlen, hrs, hput⟩
    rw [List.length_map] at hx
    obtain ⟨hi, rfl⟩ := rangeE hx
    refine ⟨_, gd_name, ?_⟩
    cases rest with
    | nil => rw [List.append_nil] at hlen; omega
    | cons r rs =>
      have hget : (done ++ r :: rs)[i]? = some r := by rw [List.getElem?_append_right (by omega), hdone, Nat.sub_self]; rfl
      have hr1 : r.length ≤ 1000 := hrs r (by simp)
      have hcell : ∀ {Γ : List AV}, Γ[2]? = some (.l ((done ++ r :: rs).map dR)) → Γ[3]? = some (.d (dI i)) → ED W0 (tOp (rIx K) (tVar 2) (tVar 3)) Γ (dR r) := fun h1 h2 => ed_ixL (er_var h1) (ed_var h2) (map_getE hget)
      -- greater = [..]
      refine sv_setL (A := fun es => es = (gr r z).map dI) ?_ fun es e => ?_
      · refine (el_fil (l := List.range r.length) (enc := dI) (b := fun k => decide (z < r.getD k 0)) (f := dI) ?_ (fun k hk => ?_) (fun k hk _ => ed_var rfl) (by simp; omega)).to rfl
        · have := wd_rng1 (W := W0) (ea_cons (ed_lenT (K := K) (hcell (Γ := [.d (dT t), .d (dI z), .l ((done ++ r :: rs).map dR), .d (dI i), b, c, d]) rfl rfl)) an_nil) (by omega) (by simp; omega)
          rw [Int.toNat_natCast, rangeD0, List.length_map] at this
          exact this
        · have hk' := List.mem_range.mp hk
          refine (et_test (ed_gt (i := (r.getD k 0 : Nat)) (ed_ixT (hcell rfl rfl) (ed_var rfl) ?_) (ed_var rfl))).to ?_
          · exact map_getE (by rw [List.getD_eq_getElem?_getD, List.getElem?_eq_getElem hk']; rfl)
          · simp
      subst e
      refine sv_ifs (et_not (et_trL (er_var rfl))) (fun hb => ?_) fun hb => sv_skip ?_
      · -- not greater
        have g0 : gr r z = [] := by
          cases e : gr r z with
          | nil => rfl
          | cons k ks => rw [e] at hb; cases hb
        have hins := ins_nil g0
        have hp : ptIn (r :: rs) z = ((r ++ [z]) :: rs, 0) := by rw [ptIn, hins]
        refine sv_assoc (sv_setI (j := i) rfl (ed_addT (hcell rfl rfl) (ed_tup (ea_cons (ed_var rfl) an_nil) (by simp)) (by simp; omega)) (ed_var rfl) (by rw [List.length_map, hlen]; exact hi) ?_)
        refine sv_rets (ed_tup (ea_cons (ed_tupR (er_var rfl)) (ea_cons (ed_var rfl) an_nil)) (by simp)) ?_
        show Out.rt _ = .rt _
        rw [hput, hp]
        congr 3
        · congr 1
          show (((done ++ r :: rs).map dR).set i (.tup (r.map dI ++ [dI z]))) = (done ++ (r ++ [z]) :: rs).map dR
          rw [List.map_append, List.set_append_right _ _ (by simp; omega), List.length_map, hdone, Nat.sub_self, List.map_cons, List.set_cons_zero, List.map_append, List.map_cons]
          simp [dR]
      · cases e : gr r z with
        | nil => rw [e] at hb; cases hb
        | cons k ks =>
          obtain ⟨hk, hins⟩ := ins_at e
          have hp : ptIn (r :: rs) z = ((r.take k ++ [z] ++ r.drop (k + 1)) :: (ptIn rs (r.getD k 0)).1, (ptIn rs (r.getD k 0)).2 + 1) := by rw [ptIn, hins]
          refine sv_set (x := dI k) (ed_ixL (er_var rfl) ed_int (by rw [List.map_cons]; exact at0)) ?_
          refine sv_set (x := dR r) (hcell rfl rfl) ?_
          have e1 : cutD (r.map dI) none (some (k : Int)) = (r.take k).map dI := by rw [cutD_take, List.map_take]
          have e2 : cutD (r.map dI) (some ((k : Int) + 1)) none = (r.drop (k + 1)).map dI := by
            have := cutD_drop (r.map dI) (k + 1)
            rw [Int.natCast_add] at this
            rw [List.map_drop]
            exact this
          have l1 : (r.take k).length ≤ 1000 := by rw [List.length_take]; omega
          have l2 : (r.drop (k + 1)).length ≤ 1000 := by rw [List.length_drop]; omega
          refine sv_setI (j := i) (x := dR (r.take k ++ [z] ++ r.drop (k + 1))) rfl ((ed_addT (ed_addT ((ed_sl (lo := none) (hi := some (k : Int)) (ed_var rfl) eo_none (eo_some (ed_var rfl))).to (congrArg D.tup e1)) (ed_tup (ea_cons (ed_var rfl) an_nil) (by simp)) (by simp; omega)) ((ed_sl (lo := some ((k : Int) + 1)) (hi := none) (ed_var rfl) (eo_some (ed_addI (ed_var rfl) ed_int)) eo_none).to (congrArg D.tup e2)) (by simp; omega)).to (by simp [dR])) (ed_var rfl) (by rw [List.length_map, hlen]; exact hi) ?_
          refine sv_end (sv_set (x := dI (r.getD k 0)) (ed_ixT (ed_var rfl) (ed_var rfl) (map_getE (by rw [List.getD_eq_getElem?_getD, List.getElem?_eq_getElem hk]; rfl))) (sv_next ?_))
          refine ⟨done ++ [r.take k ++ [z] ++ r.drop (k + 1)], rs, r.getD k 0, .d (dI i), .l ((k :: ks).map dI), .d (dI k), .d (dR r), ?_, by simp [hdone], by simpa using hlen, fun r hr => hrs r (by simp [hr]), ?_⟩
          · show [_, _, AV.l (((done ++ r :: rs).map dR).set i (dR (r.take k ++ [z] ++ r.drop (k + 1)))), _, _, _, _] = [_, _, _, _, _, _, _]
            have e3 : ((done ++ r :: rs).map dR).set i (dR (r.take k ++ [z] ++ r.drop (k + 1))) = ((done ++ [r.take k ++ [z] ++ r.drop (k + 1)]) ++ rs).map dR := by
              rw [List.map_append, List.set_append_right _ _ (by simp; omega), List.length_map, hdone, Nat.sub_self, List.map_cons, List.set_cons_zero]
              simp
            rw [e3]
          · rw [hput, hp]
            simp
            omega
  · rintro Γ1 ⟨done, rest, z, a, b, c, d, rfl, hdone, hlen, hrs, hput⟩
    rw [rangeD, List.length_map, List.length_range, Int.toNat_natCast, List.length_map] at hdone
    have hr0 : rest = [] := by
      rw [List.length_append] at hlen
      exact List.eq_nil_of_length_eq_zero (by omega)
    subst hr0
    rw [List.append_nil] at hlen
    refine sv_ret (ed_tup (ea_cons (ed_addT (ed_tupR (er_var rfl)) (ed_tup (ea_cons (ed_tup (ea_cons (ed_var rfl) an_nil) (by simp)) an_nil) (by simp)) (by simp; omega)) (ea_cons (ed_lenL (er_var rfl)) an_nil)) (by simp)) ?_
    show Out.rt _ = .rt _
    rw [hput]
    simp [ptIn, dT, dR, hlen, rangeD_len]
end
end Ta

set_option Elab.async false
set_option maxRecDepth 100000
set_option linter.unusedVariables false
set_option maxHeartbeats 4000000
namespace Ta
open PySem L2 Ly K51
section
variable {P : Program} {w : World} {K : PySem.W.Frag} {mg : Str → Option Value} {base : Heap}
/-! ### put_in, tableau_of, shape_of -/
def RPut1 : List D → D → Prop := fun ds y => ∃ (t : List (List Nat)) (x : Nat), ds = [dT t, dI x] ∧ Sz 1000 t ∧ y = dT (ptIn t x).1
theorem scput_in : FnScope ["tableau", "number"] ["tableau", "number"] (defScope sput_in) := ⟨rfl, rfl, rfl, by decide +kernel, rfl, by decide +kernel, by decide +kernel⟩
theorem ok_put {f : Addr} {fd : FuncData} (F : Fun K "put_in" "put_in" sput_in f fd) (T : Txt mg) (h_put_in : Df P w K mg base 1 "_put_in" ["tableau", "number"] (spG RPut)) : FnOk P w K mg base CX0 2 f fd ["tableau", "number"] (spG RPut1) := by
  refine fn_G F scput_in (by rintro ds y ⟨n, x, rfl, _⟩; rfl) fun cdv A outer s H E hr ds y hd => ?_
  obtain ⟨t, x, rfl, ht, rfl⟩ := hd
  refine ⟨_, (pss_one (ps_ret (pe_ix ix_seq (pe_df h_put_in (hr.mono (by omega)) (by rfl) (pa_cons (pv 0) (pa_cons (pv 1) pa_nil))) pe_int (fun _ _ => rfl)))), ?_⟩
  exact sv_ret (ed_ixT (ed_G (ea_cons (ed_var rfl) (ea_cons (ed_var rfl) an_nil)) ⟨t, x, rfl, ht, rfl⟩) ed_int at0) rfl
theorem ins_len : ∀ (r : List Nat) (x : Nat), (insRow r x).1.length ≤ r.length + 1
  | [], x => by simp [insRow]
  | y :: r, x => by
    rw [insRow]
    split
    · simp
    · simp only [List.length_cons]
      have := ins_len r x
      omega
theorem ptIn_sz {m : Nat} : ∀ {t : List (List Nat)} {x : Nat}, (∀ r ∈ t, r.length ≤ m) → (ptIn t x).1.length ≤ t.length + 1 ∧ ∀ r ∈ (ptIn t x).1, r.length ≤ m + 1
  | [], x, _ => by simp [ptIn]
  | r :: rs, x, h => by
    have hr := h r (by simp)
    have hi := ins_len r x
    rw [ptIn]
    split
    · refine ⟨by simp, fun q hq => ?_⟩
      rcases List.mem_cons.mp hq with rfl | hq
      · show (insRow r x).1.length ≤ m + 1
        omega
      · exact Nat.le_succ_of_le (h q (by simp [hq]))
    · rename_i y e
      obtain ⟨a, b⟩ := ptIn_sz (m := m) (t := rs) (x := y) fun q hq => h q (by simp [hq])
      refine ⟨by simp; omega, fun q hq => ?_⟩
      rcases List.mem_cons.mp hq with rfl | hq
      · show (insRow r x).1.length ≤ m + 1
        omega
      · exact b q hq
theorem Sz.put {m : Nat} {t : List (List Nat)} {x : Nat} (h : Sz m t) : Sz (m + 1) (ptIn t x).1 := by
  obtain ⟨a, b⟩ := ptIn_sz (x := x) h.2
  exact ⟨by have := h.1; omega, b⟩
theorem Sz.mono {m n : Nat} {t : List (List Nat)} (h : Sz m t) (l : m ≤ n) : Sz n t := ⟨Nat.le_trans h.1 l, fun r hr => Nat.le_trans (h.2 r hr) l⟩
theorem tab_snoc (w : List Nat) (x : Nat) : tab (w ++ [x]) = (ptIn (tab w) x).1 := by simp [tab]
theorem tab_sz : ∀ (w : List Nat) (i : Nat), Sz i (tab (w.take i))
  | w, 0 => ⟨by simp [tab], by simp [tab]⟩
  | w, i + 1 => by
    cases e : w[i]? with
    | none =>
      rw [List.take_add_one, e]
      simp only [Option.toList_none, List.append_nil]
      exact (tab_sz w i).mono (Nat.le_succ i)
    | some x =>
      rw [take_succ_get e, tab_snoc]
      exact (tab_sz w i).put
theorem tab_szL (w : List Nat) : Sz w.length (tab w) := by
  have := tab_sz w w.length
  rwa [List.take_length] at this
def RTab : List D → D → Prop := fun ds y => ∃ w : List Nat, ds = [dR w] ∧ w.length ≤ 1000 ∧ y = dT (tab w)
theorem sctableau_of : FnScope ["word", "found", "number"] ["word"] (defScope stableau_of) := ⟨rfl, rfl, rfl, by decide +kernel, rfl, by decide +kernel, by decide +kernel⟩
theorem ok_tab {f : Addr} {fd : FuncData} (F : Fun K "tableau_of" "tableau_of" stableau_of f fd) (T : Txt mg) (hput_in : Df P w K mg base 2 "put_in" ["tableau", "number"] (spG RPut1)) : FnOk P w K mg base CX0 3 f fd ["word"] (spG RTab) := by
  refine fn_G F sctableau_of (by rintro ds y ⟨n, rfl, _⟩; rfl) fun cdv A outer s H E hr ds y hd => ?_
  obtain ⟨v, rfl, hv, rfl⟩ := hd
  refine ⟨_, (pss_cons (ps_set (i := 1) sctableau_of.nd rfl (by first | exact Or.inl rfl | exact Or.inr rfl) (pe_tup pa_nil))
    (pss_cons (ps_for PassesOwn.never rfl (pi_tup (pv 0)) (pg_name (i := 2) sctableau_of.nd rfl (by first | exact Or.inl rfl | exact Or.inr rfl))
      (pss_one (ps_set (i := 1) sctableau_of.nd rfl (by first | exact Or.inl rfl | exact Or.inr rfl) (pe_df hput_in (hr.mono (by omega)) (by rfl) (pa_cons (pv 1) (pa_cons (pv 2) pa_nil))))))
    (pss_one (ps_ret (pv 1))))), ?_⟩
  show SV W0 _ [.d (dR v), .no, .no] _
  refine sv_set (x := dT (tab [])) (ed_tup an_nil (by show 0 ≤ 100000; omega)) ?_
  refine sv_for (is := [2]) (fun i Γ1 => ∃ a, Γ1 = [.d (dR v), .d (dT (tab (v.take i))), a]) (wd_tup (ed_var rfl)) ⟨_, rfl⟩ ?_ ?_
  · rintro i x Γ1 hx ⟨a, rfl⟩
    obtain ⟨n, hn, rfl⟩ : ∃ n, v[i]? = some n ∧ dI n = x := by simpa using hx
    refine ⟨_, gd_name, ?_⟩
    have hil := lt_of_get hn
    refine sv_end (sv_set (x := dT (tab (v.take (i + 1)))) ((ed_G (ea_cons (ed_var rfl) (ea_cons (ed_var rfl) an_nil)) ⟨tab (v.take i), n, rfl, (tab_sz v i).mono (by omega), rfl⟩).to ?_) (sv_next ⟨_, rfl⟩))
    rw [take_succ_get hn, tab_snoc]
  · rintro Γ1 ⟨a, rfl⟩
    refine sv_ret (ed_var rfl) ?_
    rw [List.length_map, List.take_length]
def RShape : List D → D → Prop := fun ds y => ∃ t : List (List Nat), ds = [dT t] ∧ t.length ≤ 1000 ∧ y = dR (shape t)
theorem scshape_of : FnScope ["tableau", "row"] ["tableau"] (defScope sshape_of) := ⟨rfl, rfl, rfl, by decide +kernel, rfl, by decide +kernel, by decide +kernel⟩
theorem ok_shape {f : Addr} {fd : FuncData} (F : Fun K "shape_of" "shape_of" sshape_of f fd) (T : Txt mg) : FnOk P w K mg base CX0 1 f fd ["tableau"] (spG RShape) := by
  refine fn_G F scshape_of (by rintro ds y ⟨n, rfl, _⟩; rfl) fun cdv A outer s H E hr ds y hd => ?_
  obtain ⟨t, rfl, ht, rfl⟩ := hd
  refine ⟨_, (pss_one (ps_ret (pe_callTy call_tupS (by rfl) T.b_tuple bt_tuple (pa_cons (pe_lc (own := [("row", 1)]) (g := (gName 1)) (tt := tYes) (te := (tCB (rLenS K) (tCons (tVar 1) tNil))) rfl scshape_of.nd (pi_tup (pv 0)) (blkOk_by (by kernel_rfl)) (fun _ _ _ _ _ => (pg_name (i := 1) scshape_of.nd rfl (by first | exact Or.inl rfl | exact Or.inr rfl))) (fun _ _ _ _ _ => pts_nil) (fun _ _ _ _ _ => (pe_callB call_lenS (by rfl) T.b_len bt_len (pa_cons (pv 1) pa_nil)))) pa_nil)))), ?_⟩
  refine sv_ret (ed_tupR (el_map (l := t) (enc := dR) (f := fun r => dI r.length) (wd_tup (ed_var rfl)) (fun r hr => (ed_lenT (ed_var rfl)).to (by simp)) (by omega)).er) ?_
  show Out.rt (.tup _) = .rt (.tup ((shape t).map dI))
  unfold shape
  rw [List.map_map]
  rfl
/-! ### count_orders, count_words -/
def hooksI (p : List Nat) : List Int := (List.range p.length).flatMap fun (i : Nat) => (List.range (p.getD i 0)).map fun (k : Nat) => ((p.getD i 0 : Nat) : Int) - (k : Int) + (((over p).getD k 0 : Nat) : Int) - (i : Int) - 1
def ordersI (p : List Nat) : Int := facI p.sum / prodI (hooksI p)
/-- a shape whose orders can be counted -/
structure ShOk (p : List Nat) : Prop where
  len : p.length ≤ 100
  le : ∀ x ∈ p, x ≤ 100
  sum : p.sum ≤ 100
  nh : (hooksI p).length ≤ 100
  hk : ∀ z ∈ hooksI p, z.natAbs < 2 ^ 16
  pos : CDiv (facI p.sum) (prodI (hooksI p))
theorem sum_cast : ∀ p : List Nat, (p.map fun (n : Nat) => (n : Int)).sum = ((p.sum : Nat) : Int)
  | [] => rfl
  | a :: l => by rw [List.map_cons, List.sum_cons, sum_cast l, List.sum_cons, Int.natCast_add]
def RCount : List D → D → Prop := fun ds y => ∃ p : List Nat, ds = [dR p] ∧ ShOk p ∧ y = .int (ordersI p)
theorem over_len (p : List Nat) : (over p).length = maxl p := by simp [over, maxl]
theorem sccount_orders : FnScope ["shape", "columns", "hooks", "i", "k"] ["shape"] (defScope scount_orders) := ⟨rfl, rfl, rfl, by decide +kernel, rfl, by decide +kernel, by decide +kernel⟩
theorem ok_count {f : Addr} {fd : FuncData} (F : Fun K "count_orders" "count_orders" scount_orders f fd) (T : Txt mg) (hover : Df P w K mg base 1 "over" ["parting"] (spG ROver)) (hfactorial : Df P w K mg base 2 "factorial" ["n"] (spG RFac)) (hproduct_of : Df P w K mg base 1 "product_of" ["numbers"] spProd) : FnOk P w K mg base CX0 3 f fd ["shape"] (spG RCount) := by
  refine fn_G F sccount_orders (by rintro ds y ⟨n, rfl, _⟩; rfl) fun cdv A outer s H E hr ds y hd => ?_
  obtain ⟨p, rfl, ok, rfl⟩ := hd
  have := ok.len
  refine ⟨_, (pss_cons (ps_set (i := 1) sccount_orders.nd rfl (by first | exact Or.inl rfl | exact Or.inr rfl) (pe_df hover (hr.mono (by omega)) (by rfl) (pa_cons (pv 0) pa_nil)))
    (pss_cons (ps_setLc2 (i := 2) (own := [("i", 3), ("k", 4)]) (vs1 := [4]) (g := (gName 3)) (tt := tYes) (wi1 := (iRng1 (tCons (tOp (rIx K) (tVar 0) (tVar 3)) tNil))) (g1 := (gName 4)) (tt1 := tYes) (te := (tOp rSubI (tOp rSubI (tOp (rAddU K) (tOp rSubI (tOp (rIx K) (tVar 0) (tVar 3)) (tVar 4)) (tOp (rIx K) (tVar 1) (tVar 4))) (tVar 3)) (tC (.int 1)))) rfl sccount_orders.nd rfl rfl (sw_true rfl rfl rfl (by decide +kernel)) (pi_range1 (by rfl) T.b_range (pa_cons (pe_callB call_lenS (by rfl) T.b_len bt_len (pa_cons (pv 0) pa_nil)) pa_nil)) (blkOk_by (by kernel_rfl)) (by decide) (fun _ _ _ _ _ => (pg_name (i := 3) sccount_orders.nd rfl (by first | exact Or.inl rfl | exact Or.inr rfl))) (fun _ _ _ _ _ => pts_nil) (fun _ _ _ _ _ => (pi_range1 (by rfl) T.b_range (pa_cons (pe_ix ix_seq (pv 0) (pv 3) (fun _ _ => rfl)) pa_nil))) (fun _ _ _ _ _ => (pg_name (i := 4) sccount_orders.nd rfl (by first | exact Or.inl rfl | exact Or.inr rfl))) (fun _ _ _ _ _ => pts_nil) (fun _ _ _ _ _ => (pe_op op_sub (pe_op op_sub (pe_op op_addU (pe_op op_sub (pe_ix ix_seq (pv 0) (pv 3) (fun _ _ => rfl)) (pv 4)) (pe_ix ix_seq (pv 1) (pv 4) (fun _ _ => rfl))) (pv 3)) pe_int)))
    (pss_one (ps_ret (pe_op op_fdiv (pe_df hfactorial (hr.mono (by omega)) (by rfl) (pa_cons (pe_callB (call_sumU rfl) (by rfl) T.b_sum bt_sum (pa_cons (pv 0) pa_nil)) pa_nil)) (pe_df hproduct_of (hr.mono (by omega)) (by rfl) (pa_cons (pv 2) pa_nil))))))), ?_⟩
  show SV W0 _ [.d (dR p), .no, .no, .no, .no] _
  refine sv_set (x := dR (over p)) (ed_G (ea_cons (ed_var rfl) an_nil) ⟨p, rfl, ok.len, ok.le, rfl⟩) ?_
  have hget : ∀ {i : Nat}, i < p.length → L2.atI (p.map dI) (i : Int) = some (dI (p.getD i 0)) := fun {i} h => map_getE (by rw [List.getD_eq_getElem?_getD, List.getElem?_eq_getElem h]; rfl)
  have hle : ∀ i, p.getD i 0 ≤ maxl p ∧ p.getD i 0 ≤ 100 := fun i => by
    rw [List.getD_eq_getElem?_getD]
    cases e : p[i]? with
    | none => exact ⟨Nat.zero_le _, Nat.zero_le _⟩
    | some a => exact ⟨(maxl_mem p 0).2 a (List.mem_cons_of_mem _ (List.mem_of_getElem? e)), ok.le a (List.mem_of_getElem? e)⟩
  have hover' : ∀ {i k : Nat}, k < p.getD i 0 → L2.atI ((over p).map dI) (k : Int) = some (dI ((over p).getD k 0)) := fun {i k} h => map_getE (by
    have := (hle i).1
    have h2 : k < (over p).length := by rw [over_len]; omega
    rw [List.getD_eq_getElem?_getD, List.getElem?_eq_getElem h2]; rfl)
  have eh : ((List.range p.length).flatMap fun (i : Nat) => (List.range (p.getD i 0)).map fun (k : Nat) => D.int (((p.getD i 0 : Nat) : Int) - (k : Int) + (((over p).getD k 0 : Nat) : Int) - (i : Int) - 1)) = (hooksI p).map D.int := by
    unfold hooksI
    rw [List.map_flatMap]
    congr 1
    funext i
    rw [List.map_map]
    rfl
  refine sv_setL (A := fun es => es = (hooksI p).map D.int) ?_ fun es e => ?_
  · refine (el_map2 (l := List.range p.length) (enc := dI) (m := fun i => List.range (p.getD i 0)) (enc2 := dI) (f := fun (i k : Nat) => D.int (((p.getD i 0 : Nat) : Int) - (k : Int) + (((over p).getD k 0 : Nat) : Int) - (i : Int) - 1)) (by decide) ?_ (fun i hi => ?_) (fun i hi k hk => ?_) ?_).to eh
    · have := wd_rng1 (W := W0) (Γ := [.d (dR p), .d (dR (over p)), .no, .no, .no]) (ea_cons (ed_lenT (K := K) (ed_var (i := 0) rfl)) an_nil) (by omega) (by simp; omega)
      rw [Int.toNat_natCast, rangeD0, List.length_map] at this
      exact this
    · have hi' := List.mem_range.mp hi
      have h1 := (hle i).2
      have := wd_rng1 (W := W0) (Γ := ([.d (dR p), .d (dR (over p)), .no, .no, .no] : List AV).set 3 (.d (dI i))) (ea_cons (ed_ixT (K := K) (ed_var (i := 0) rfl) (ed_var (i := 3) rfl) (hget hi')) an_nil) (by omega) (by omega)
      rw [Int.toNat_natCast, rangeD0] at this
      exact this
    · have hi' := List.mem_range.mp hi
      have hk' := List.mem_range.mp hk
      exact ed_sub (ed_sub (ed_addI (ed_sub (ed_ixT (ed_var rfl) (ed_var rfl) (hget hi')) (ed_var rfl)) (ed_ixT (ed_var rfl) (ed_var rfl) (hover' hk'))) (ed_var rfl)) ed_int
    · have h1 := ok.nh
      have h2 := congrArg List.length eh
      rw [List.length_map] at h2
      simp only [List.length_flatMap, List.length_map] at h2 ⊢
      omega
  · subst e
    refine sv_ret (ed_div (ed_G (ea_cons (ed_sumT ((ed_var rfl).to (congrArg D.tup (map_ints p)))) an_nil) ⟨p.sum, ?_, ok.sum, rfl⟩) (ed_prod (er_var rfl) ok.nh ok.hk) ok.pos) rfl
    rw [sum_cast]
def RCountW : List D → D → Prop := fun ds y => ∃ t : List (List Nat), ds = [dT t] ∧ t.length ≤ 1000 ∧ ShOk (shape t) ∧ y = .int (ordersI (shape t))
theorem sccount_words : FnScope ["tableau"] ["tableau"] (defScope scount_words) := ⟨rfl, rfl, rfl, by decide +kernel, rfl, by decide +kernel, by decide +kernel⟩
theorem ok_countw {f : Addr} {fd : FuncData} (F : Fun K "count_words" "count_words" scount_words f fd) (T : Txt mg) (hshape_of : Df P w K mg base 1 "shape_of" ["tableau"] (spG RShape)) (hcount_orders : Df P w K mg base 3 "count_orders" ["shape"] (spG RCount)) : FnOk P w K mg base CX0 4 f fd ["tableau"] (spG RCountW) := by
  refine fn_G F sccount_words (by rintro ds y ⟨n, rfl, _⟩; rfl) fun cdv A outer s H E hr ds y hd => ?_
  obtain ⟨t, rfl, ht, ok, rfl⟩ := hd
  refine ⟨_, (pss_one (ps_ret (pe_df hcount_orders (hr.mono (by omega)) (by rfl) (pa_cons (pe_df hshape_of (hr.mono (by omega)) (by rfl) (pa_cons (pv 0) pa_nil)) pa_nil)))), ?_⟩
  exact sv_ret (ed_G (ea_cons (ed_G (ea_cons (ed_var rfl) an_nil) ⟨t, rfl, ht, rfl⟩) an_nil) ⟨shape t, rfl, ok, rfl⟩) rfl
end
end Ta

set_option Elab.async false
set_option maxRecDepth 100000
set_option linter.unusedVariables false
set_option maxHeartbeats 4000000
namespace Ta
open PySem L2 Ly K51
section
variable {P : Program} {w : World} {K : PySem.W.Frag} {mg : Str → Option Value} {base : Heap}
/-! ### pair_of -/
theorem ptIn_ix : ∀ (t : List (List Nat)) (x : Nat), (ptIn t x).2 ≤ t.length ∧ (ptIn t x).1.length = if (ptIn t x).2 = t.length then t.length + 1 else t.length
  | [], x => by simp [ptIn]
  | r :: rs, x => by
    rw [ptIn]
    split
    · simp
    · rename_i y e
      obtain ⟨a, b⟩ := ptIn_ix rs y
      refine ⟨by simp; exact a, ?_⟩
      simp only [List.length_cons, b]
      by_cases h : (ptIn rs y).2 = rs.length <;> simp [h]
theorem addAt_end : ∀ (o : List (List Nat)) (k : Nat), addAt o o.length k = o ++ [[k]]
  | [], k => rfl
  | r :: rs, k => by rw [List.length_cons, addAt, addAt_end rs k]; rfl
theorem addAt_in : ∀ {o : List (List Nat)} {i k : Nat} {r : List Nat}, o[i]? = some r → addAt o i k = o.take i ++ [r ++ [k]] ++ o.drop (i + 1)
  | [], i, k, r, h => by simp at h
  | q :: rs, 0, k, r, h => by simp at h; subst h; rfl
  | q :: rs, i + 1, k, r, h => by
    rw [addAt, addAt_in (o := rs) (i := i) (by simpa using h)]
    simp
theorem addAt_len {o : List (List Nat)} {i k : Nat} (h : i ≤ o.length) : (addAt o i k).length = if i = o.length then o.length + 1 else o.length := by
  by_cases e : i = o.length
  · rw [if_pos e, e, addAt_end]; simp
  · rw [if_neg e, addAt_in (List.getElem?_eq_getElem (show i < o.length by omega))]
    simp
    omega
def prs (w : List Nat) (i : Nat) : List (List Nat) × List (List Nat) := (w.take i).zipIdx.foldl pairStep ([], [])
theorem prs_succ {w : List Nat} {i x : Nat} (h : w[i]? = some x) : prs w (i + 1) = pairStep (prs w i) (x, i) := by
  unfold prs
  rw [take_succ_get h, List.zipIdx_append, List.foldl_append]
  have : (w.take i).length = i := by have := lt_of_get h; rw [List.length_take]; omega
  simp [this]
theorem prs_fst {w : List Nat} : ∀ i, (prs w i).1 = tab (w.take i)
  | 0 => by simp [prs, tab]
  | i + 1 => by
    cases e : w[i]? with
    | none =>
      have h : w.length ≤ i := List.getElem?_eq_none_iff.mp e
      have := prs_fst (w := w) i
      unfold prs at this ⊢
      rw [List.take_of_length_le (by omega)] at this ⊢
      exact this
    | some x => rw [prs_succ e, take_succ_get e, tab_snoc, pairStep, prs_fst i]
theorem prs_len {w : List Nat} : ∀ i, (prs w i).2.length = (prs w i).1.length
  | 0 => rfl
  | i + 1 => by
    cases e : w[i]? with
    | none =>
      have h : w.length ≤ i := List.getElem?_eq_none_iff.mp e
      have := prs_len (w := w) i
      unfold prs at this ⊢
      rw [List.take_of_length_le (by omega)] at this ⊢
      exact this
    | some x =>
      have ih := prs_len (w := w) i
      obtain ⟨a, b⟩ := ptIn_ix (prs w i).1 x
      rw [prs_succ e, pairStep, addAt_len (by rw [ih]; exact a), b, ih]
def RPair : List D → D → Prop := fun ds y => ∃ w : List Nat, ds = [dR w] ∧ w.length ≤ 900 ∧ y = .tup [dT (pairOf w).1, dT (pairOf w).2]
/-- the rows of the places are no longer than there are places -/
theorem prs_sz2 {w : List Nat} : ∀ i, ∀ r ∈ (prs w i).2, r.length ≤ i
  | 0 => by simp [prs]
  | i + 1 => by
    cases e : w[i]? with
    | none =>
      have h : w.length ≤ i := List.getElem?_eq_none_iff.mp e
      have := prs_sz2 (w := w) i
      unfold prs at this ⊢
      rw [List.take_of_length_le (by omega)] at this ⊢
      exact fun r hr => Nat.le_succ_of_le (this r hr)
    | some x =>
      have ih := prs_sz2 (w := w) i
      obtain ⟨a, b⟩ := ptIn_ix (prs w i).1 x
      have hl := prs_len (w := w) i
      rw [prs_succ e, pairStep]
      intro r hr
      simp only at hr
      by_cases q : (ptIn (prs w i).1 x).2 = (prs w i).2.length
      · rw [q, addAt_end] at hr
        rcases List.mem_append.mp hr with h | h
        · exact Nat.le_succ_of_le (ih r h)
        · simp at h; subst h; simp
      · have hlt : (ptIn (prs w i).1 x).2 < (prs w i).2.length := by omega
        rw [addAt_in (List.getElem?_eq_getElem hlt)] at hr
        rcases List.mem_append.mp hr with h | h
        · rcases List.mem_append.mp h with h | h
          · exact Nat.le_succ_of_le (ih r (List.mem_of_mem_take h))
          · simp at h
            subst h
            have := ih _ (List.getElem_mem hlt)
            simp
            omega
        · exact Nat.le_succ_of_le (ih r (List.mem_of_mem_drop h))
theorem scpair_of : FnScope ["word", "tableau", "order", "k", "i"] ["word"] (defScope spair_of) := ⟨rfl, rfl, rfl, by decide +kernel, rfl, by decide +kernel, by decide +kernel⟩
theorem ok_pair {f : Addr} {fd : FuncData} (F : Fun K "pair_of" "pair_of" spair_of f fd) (T : Txt mg) (h_put_in : Df P w K mg base 1 "_put_in" ["tableau", "number"] (spG RPut)) : FnOk P w K mg base CX0 2 f fd ["word"] (spG RPair) := by
  refine fn_G F scpair_of (by rintro ds y ⟨n, rfl, _⟩; rfl) fun cdv A outer s H E hr ds y hd => ?_
  obtain ⟨v, rfl, hv, rfl⟩ := hd
  refine ⟨_, (pss_cons (ps_asg (pe_tup (pa_cons (pe_tup pa_nil) (pa_cons (pe_tup pa_nil) pa_nil))) (pg_tup rfl (pgs_cons (pg_name (i := 1) scpair_of.nd rfl (by first | exact Or.inl rfl | exact Or.inr rfl)) (pgs_cons (pg_name (i := 2) scpair_of.nd rfl (by first | exact Or.inl rfl | exact Or.inr rfl)) pgs_nil))))
    (pss_cons (ps_for PassesOwn.never rfl (pi_range1 (by rfl) T.b_range (pa_cons (pe_callB call_lenS (by rfl) T.b_len bt_len (pa_cons (pv 0) pa_nil)) pa_nil)) (pg_name (i := 3) scpair_of.nd rfl (by first | exact Or.inl rfl | exact Or.inr rfl))
      (pss_cons (ps_asg (pe_df h_put_in (hr.mono (by omega)) (by rfl) (pa_cons (pv 1) (pa_cons (pe_ix ix_seq (pv 0) (pv 3) (fun _ _ => rfl)) pa_nil))) (pg_tup rfl (pgs_cons (pg_name (i := 1) scpair_of.nd rfl (by first | exact Or.inl rfl | exact Or.inr rfl)) (pgs_cons (pg_name (i := 4) scpair_of.nd rfl (by first | exact Or.inl rfl | exact Or.inr rfl)) pgs_nil))))
    (pss_one (ps_if (pt_cmpR (op_eqU (hr.units)) (pv 4) (pe_callB call_lenS (by rfl) T.b_len bt_len (pa_cons (pv 2) pa_nil)) (nomark _)) (pss_one (ps_set (i := 2) scpair_of.nd rfl (by first | exact Or.inl rfl | exact Or.inr rfl) (pe_op op_addU (pv 2) (pe_tup (pa_cons (pe_tup (pa_cons (pv 3) pa_nil)) pa_nil))))) (pss_one (ps_set (i := 2) scpair_of.nd rfl (by first | exact Or.inl rfl | exact Or.inr rfl) (pe_op op_addU (pe_op op_addU (pe_slice sl_tupA (pv 2) po_none (po_some (pv 4))) (pe_tup (pa_cons (pe_op op_addU (pe_ix ix_seq (pv 2) (pv 4) (fun _ _ => rfl)) (pe_tup (pa_cons (pv 3) pa_nil))) pa_nil))) (pe_slice sl_tupA (pv 2) (po_some (pe_op op_addU (pv 4) pe_int)) po_none))))))))
    (pss_one (ps_ret (pe_tup (pa_cons (pv 1) (pa_cons (pv 2) pa_nil))))))), ?_⟩
  show SV W0 _ [.d (dR v), .no, .no, .no, .no] _
  refine sv_tgt (x := .tup [dT (prs v 0).1, dT (prs v 0).2]) (ed_tup (ea_cons (ed_tup an_nil (by show 0 ≤ 100000; omega)) (ea_cons (ed_tup an_nil (by show 0 ≤ 100000; omega)) an_nil)) (by simp)) gd_tup2 ?_
  refine sv_for (is := [3]) (fun i Γ1 => ∃ a b, Γ1 = [.d (dR v), .d (dT (prs v i).1), .d (dT (prs v i).2), a, b]) (wd_rng1 (ea_cons (ed_lenT (ed_var rfl)) an_nil) (by omega) (by simp; omega)) ⟨_, _, rfl⟩ ?_ ?_
  · rintro i x Γ1 hx ⟨a, b, rfl⟩
    rw [List.length_map] at hx
    obtain ⟨hi, rfl⟩ := rangeE hx
    have hn : v[i]? = some v[i] := List.getElem?_eq_getElem hi
    generalize v[i] = n at hn
    refine ⟨_, gd_name, ?_⟩
    have sz : Sz 1000 (prs v i).1 := by rw [prs_fst]; exact (tab_sz v i).mono (by omega)
    have hlen := prs_len (w := v) i
    obtain ⟨ix1, ix2⟩ := ptIn_ix (prs v i).1 n
    have hs := prs_succ hn
    have l1 : (prs v i).2.length ≤ 1000 := by rw [hlen]; exact sz.1
    refine sv_tgt (x := .tup [dT (ptIn (prs v i).1 n).1, dI (ptIn (prs v i).1 n).2]) (ed_G (ea_cons (ed_var rfl) (ea_cons (ed_ixT (ed_var rfl) (ed_var rfl) (map_getE hn)) an_nil)) ⟨_, n, rfl, sz, rfl⟩) gd_tup2 ?_
    refine sv_if (et_test (ed_eqI (ed_var rfl) (ed_lenT (ed_var rfl)))) (fun hb => ?_) fun hb => ?_
    · have hb' : (ptIn (prs v i).1 n).2 = (prs v i).2.length := by
        have := of_decide_eq_true hb
        simp only [List.length_map] at this
        omega
      refine sv_end (sv_set (x := dT (addAt (prs v i).2 (ptIn (prs v i).1 n).2 i)) ((ed_addT (ed_var rfl) (ed_tup (ea_cons (ed_tup (ea_cons (ed_var rfl) an_nil) (by simp)) an_nil) (by simp)) (by simp; omega)).to ?_) (sv_next ⟨.d (dI i), .d (dI (ptIn (prs v i).1 n).2), ?_⟩))
      · rw [hb', addAt_end]; simp [dT, dR]
      · rw [hs]; rfl
    · have hb' : ¬ (ptIn (prs v i).1 n).2 = (prs v i).2.length := by
        intro z
        rw [z] at hb
        simp at hb
      have hlt : (ptIn (prs v i).1 n).2 < (prs v i).2.length := by omega
      have hr0 : (prs v i).2[(ptIn (prs v i).1 n).2]? = some (prs v i).2[(ptIn (prs v i).1 n).2] := List.getElem?_eq_getElem hlt
      have hr2 : ((prs v i).2[(ptIn (prs v i).1 n).2]).length ≤ i := prs_sz2 i _ (List.getElem_mem hlt)
      generalize (prs v i).2[(ptIn (prs v i).1 n).2] = r0 at hr0 hr2
      generalize hj : (ptIn (prs v i).1 n).2 = j at *
      have e1 : cutD ((prs v i).2.map dR) none (some (j : Int)) = ((prs v i).2.take j).map dR := by rw [cutD_take, List.map_take]
      have e2 : cutD ((prs v i).2.map dR) (some ((j : Int) + 1)) none = ((prs v i).2.drop (j + 1)).map dR := by
        have := cutD_drop ((prs v i).2.map dR) (j + 1)
        rw [Int.natCast_add] at this
        rw [List.map_drop]
        exact this
      refine sv_end (sv_set (x := dT (addAt (prs v i).2 j i)) ((ed_addT (ed_addT ((ed_sl (lo := none) (hi := some (j : Int)) (ed_var rfl) eo_none (eo_some (ed_var rfl))).to (congrArg D.tup e1)) (ed_tup (ea_cons (ed_addT (ds := r0.map dI) (ed_ixT (ed_var rfl) (ed_var rfl) (map_getE (f := dR) hr0)) (ed_tup (ea_cons (ed_var rfl) an_nil) (by simp)) (by simp; omega)) an_nil) (by simp)) (by simp; omega)) ((ed_sl (lo := some ((j : Int) + 1)) (hi := none) (ed_var rfl) (eo_some (ed_addI (ed_var rfl) ed_int)) eo_none).to (congrArg D.tup e2)) (by simp; omega)).to ?_) (sv_next ⟨.d (dI i), .d (dI j), ?_⟩))
      · rw [addAt_in hr0]; simp [dT, dR]
      · rw [hs, pairStep, hj]; rfl
  · rintro Γ1 ⟨a, b, rfl⟩
    refine sv_ret (ed_tup (ea_cons (ed_var rfl) (ea_cons (ed_var rfl) an_nil)) (by simp)) ?_
    have e : prs v (rangeD 0 (((v.map dI).length : Nat) : Int).toNat).length = pairOf v := by
      rw [rangeD_len, Int.toNat_natCast, List.length_map]
      unfold prs pairOf
      rw [List.take_length]
    rw [e]
end
end Ta

set_option Elab.async false
set_option maxRecDepth 100000
set_option linter.unusedVariables false
set_option maxHeartbeats 4000000
namespace Ta
open PySem L2 Ly K51
namespace Cm
section
variable {P : Program} {w : World} {K : PySem.W.Frag} {mg : Str → Option Value} {base : Heap}
/-! ### _law_same -/
mutual
def lvl : D → Nat
  | .tup ds => lvls ds + 1
  | _ => 0
def lvls : List D → Nat
  | [] => 0
  | d :: ds => max (lvl d) (lvls ds)
end
mutual
def okS : D → Bool
  | .raw _ => false
  | .tup ds => decide (ds.length ≤ 1000) && okSs ds
  | _ => true
def okSs : List D → Bool
  | [] => true
  | d :: ds => okS d && okSs ds
end
theorem lvls_mem : ∀ {ds : List D} {d : D}, d ∈ ds → lvl d ≤ lvls ds
  | _ :: ds, d, h => by
    rcases List.mem_cons.mp h with rfl | h
    · rw [lvls]; omega
    · have := lvls_mem h
      rw [lvls]; omega
theorem okSs_mem : ∀ {ds : List D} {d : D}, okSs ds = true → d ∈ ds → okS d = true
  | _ :: ds, d, q, h => by
    rw [okSs, Bool.and_eq_true] at q
    rcases List.mem_cons.mp h with rfl | h
    · exact q.1
    · exact okSs_mem q.2 h
def RSame (n : Nat) : List D → D → Prop := fun ds y => ∃ x : D, ds = [x, x] ∧ lvl x < n ∧ okS x = true ∧ y = .bl true
theorem fn_none {f : Addr} {fd : FuncData} {ps : List Str} {R : List D → D → Prop} (h : ∀ ds y, ¬ R ds y) : FnOk P w K mg base CX0 0 f fd ps (spG R) :=
  ⟨fun vs H Q E ⟨ds, y, _, r, _⟩ => absurd r (h ds y), fun A outer s H args us vs Q E _ _ _ _ ⟨ds, y, _, r, _⟩ => absurd r (h ds y)⟩
theorem fn_noneL {f : Addr} {fd : FuncData} {ps : List Str} {R : List D → List D → Prop} (h : ∀ ds y, ¬ R ds y) : FnOk P w K mg base CX0 0 f fd ps (spGL R) :=
  ⟨fun vs H Q E ⟨ds, y, _, r, _⟩ => absurd r (h ds y), fun A outer s H args us vs Q E _ _ _ _ ⟨ds, y, _, r, _⟩ => absurd r (h ds y)⟩
theorem at0 {α : Type} {a : α} {l : List α} : L2.atI (a :: l) 0 = some a := atI_nat (j := 0) rfl
theorem at1 {α : Type} {a b : α} {l : List α} : L2.atI (a :: b :: l) 1 = some b := atI_nat (j := 1) rfl
theorem at2 {α : Type} {a b c : α} {l : List α} : L2.atI (a :: b :: c :: l) 2 = some c := atI_nat (j := 2) rfl
theorem rangeD_len (lo : Int) (n : Nat) : (rangeD lo n).length = n := by simp [rangeD]
theorem rangeE' {n i : Nat} {x : D} (h : (rangeD 0 ((n : Int)).toNat)[i]? = some x) : i < n ∧ x = .int (i : Int) := by
  obtain ⟨a, b⟩ := rangeD_get h
  rw [Int.toNat_natCast] at a
  exact ⟨a, by rw [b, Int.zero_add]⟩
theorem sc_law_same : FnScope ["actual", "due", "k"] ["actual", "due"] (defScope s_law_same) := ⟨rfl, rfl, rfl, by decide +kernel, rfl, by decide +kernel, by decide +kernel⟩
theorem ok_same1 {n : Nat} {f : Addr} {fd : FuncData} (F : Fun K "_law_same" "_law_same" s_law_same f fd) (T : Txt mg) (h_law_same : Df P w K mg base n "_law_same" ["actual", "due"] (spG (RSame n))) : FnOk P w K mg base CX0 (n + 1) f fd ["actual", "due"] (spG (RSame (n + 1))) := by
  refine fn_G F sc_law_same (by rintro ds y ⟨n, rfl, _⟩; rfl) fun cdv A outer s H E hr ds y hd => ?_
  obtain ⟨x, rfl, hl, ok, rfl⟩ := hd
  refine ⟨_, (pss_cons (ps_if (pt_cmpR op_isN (pv 1) pe_non (nomark _)) (pss_one (ps_ret (pe_cmpR op_isN (pv 0) pe_non (nomark _)))) pss_nil)
    (pss_cons (ps_if (PW.pt (pw_or (pt_tr (pe_callB call_isi (by rfl) T.b_isinstance bt_isinstance (pa_cons (pv 1) (pa_cons (pe_bltn (v := .ty "tuple") (by rfl) T.b_tuple bt_tuple rfl) pa_nil)))) (pw_or1 (pt_tr (pe_callB call_isi (by rfl) T.b_isinstance bt_isinstance (pa_cons (pv 1) (pa_cons (pe_bltn (v := .ty "list") (by rfl) T.b_list bt_list rfl) pa_nil))))))) (pss_cons (ps_if (PW.pt (pw_or (pt_cmpR (op_neU (hr.units)) (pe_callB call_isi (by rfl) T.b_isinstance bt_isinstance (pa_cons (pv 1) (pa_cons (pe_bltn (v := .ty "tuple") (by rfl) T.b_tuple bt_tuple rfl) pa_nil))) (pe_callB call_isi (by rfl) T.b_isinstance bt_isinstance (pa_cons (pv 0) (pa_cons (pe_bltn (v := .ty "tuple") (by rfl) T.b_tuple bt_tuple rfl) pa_nil))) (nomark _)) (pw_or1 (pt_cmpR (op_neU (hr.units)) (pe_callB call_isi (by rfl) T.b_isinstance bt_isinstance (pa_cons (pv 1) (pa_cons (pe_bltn (v := .ty "list") (by rfl) T.b_list bt_list rfl) pa_nil))) (pe_callB call_isi (by rfl) T.b_isinstance bt_isinstance (pa_cons (pv 0) (pa_cons (pe_bltn (v := .ty "list") (by rfl) T.b_list bt_list rfl) pa_nil))) (nomark _))))) (pss_one (ps_ret pe_bl)) pss_nil)
    (pss_cons (ps_if (pt_cmpR (op_neU (hr.units)) (pe_callB call_lenS (by rfl) T.b_len bt_len (pa_cons (pv 0) pa_nil)) (pe_callB call_lenS (by rfl) T.b_len bt_len (pa_cons (pv 1) pa_nil)) (nomark _)) (pss_one (ps_ret pe_bl)) pss_nil)
    (pss_cons (ps_for PassesOwn.never rfl (pi_range1 (by rfl) T.b_range (pa_cons (pe_callB call_lenS (by rfl) T.b_len bt_len (pa_cons (pv 1) pa_nil)) pa_nil)) (pg_name (i := 2) sc_law_same.nd rfl (by first | exact Or.inl rfl | exact Or.inr rfl))
      (pss_one (ps_if (pt_not (pt_tr (pe_df h_law_same (hr.mono (by omega)) (by rfl) (pa_cons (pe_ix ix_seq (pv 0) (pv 2) (fun _ _ => rfl)) (pa_cons (pe_ix ix_seq (pv 1) (pv 2) (fun _ _ => rfl)) pa_nil))))) (pss_one (ps_ret pe_bl)) pss_nil)))
    (pss_one (ps_ret pe_bl))))) pss_nil)
    (pss_cons (ps_if (pt_cmpR (op_neU (hr.units)) (pe_callB call_isi (by rfl) T.b_isinstance bt_isinstance (pa_cons (pv 1) (pa_cons (pe_bltn (v := .ty "bool") (by rfl) T.b_bool bt_bool rfl) pa_nil))) (pe_callB call_isi (by rfl) T.b_isinstance bt_isinstance (pa_cons (pv 0) (pa_cons (pe_bltn (v := .ty "bool") (by rfl) T.b_bool bt_bool rfl) pa_nil))) (nomark _)) (pss_one (ps_ret pe_bl)) pss_nil)
    (pss_cons (ps_if (PW.pt (pw_or (pt_cmpR (op_neU (hr.units)) (pe_callB call_isi (by rfl) T.b_isinstance bt_isinstance (pa_cons (pv 1) (pa_cons (pe_bltn (v := .ty "int") (by rfl) T.b_int bt_int rfl) pa_nil))) (pe_callB call_isi (by rfl) T.b_isinstance bt_isinstance (pa_cons (pv 0) (pa_cons (pe_bltn (v := .ty "int") (by rfl) T.b_int bt_int rfl) pa_nil))) (nomark _)) (pw_or1 (pt_cmpR (op_neU (hr.units)) (pe_callB call_isi (by rfl) T.b_isinstance bt_isinstance (pa_cons (pv 1) (pa_cons (pe_bltn (v := .ty "str") (by rfl) T.b_str bt_str rfl) pa_nil))) (pe_callB call_isi (by rfl) T.b_isinstance bt_isinstance (pa_cons (pv 0) (pa_cons (pe_bltn (v := .ty "str") (by rfl) T.b_str bt_str rfl) pa_nil))) (nomark _))))) (pss_one (ps_ret pe_bl)) pss_nil)
    (pss_one (ps_ret (pe_cmpR (op_eqU (hr.units)) (pv 0) (pv 1) (nomark _)))))))), ?_⟩
  show SV W0 _ [.d x, .d x, .no] _
  have isi : ∀ {Γ : List AV} {i : Nat} {nm : String} {b : Bool}, Γ[i]? = some (.d x) → (∀ m, x ≠ .raw m) → kitB x.tn nm = some b → ED W0 (tCB (rIsi K) (tCons (tVar i) (tCons (tC (.ty nm)) tNil))) Γ (.bl b) := fun h1 h2 h3 => ed_isi (ed_var h1) ed_ty h2 h3
  have itr : ∀ {Γ : List AV} {te : TE} {b : Bool}, ED W0 te Γ (.bl b) → ET W0 (tTr K te) Γ b := fun h => et_trD h nofun nofun
  refine sv_ifs (et_test (ed_isN (ed_var rfl))) (fun hb => ?_) fun hb => sv_skip ?_
  · cases x with
    | non => exact sv_rets ((ed_isN (ed_var rfl)).to rfl) rfl
    | raw v => simp [okS] at ok
    | _ => cases hb
  cases x with
  | raw m => simp [okS] at ok
  | non => cases hb
  | tup xs =>
    simp only [okS, Bool.and_eq_true, decide_eq_true_eq] at ok
    refine sv_ifs (b := true) ((et_or (a := true) (b := true) (itr (isi (i := 1) rfl nofun (b := true) (by kernel_rfl))) (fun h => by cases h)).to rfl) (fun _ => ?_) nofun
    refine sv_assoc (sv_ifs (b := false) ((et_or (a := false) (b := false) (et_test ((ed_neB (isi (i := 1) rfl nofun (b := true) (by kernel_rfl)) (isi (i := 0) rfl nofun (b := true) (by kernel_rfl))).to rfl)) (fun _ => et_test ((ed_neB (isi (i := 1) rfl nofun (b := false) (by kernel_rfl)) (isi (i := 0) rfl nofun (b := false) (by kernel_rfl))).to rfl))).to rfl) nofun fun _ => sv_skip ?_)
    refine sv_assoc (sv_ifs (b := false) ((et_test (ed_neI (ed_lenT (ed_var rfl)) (ed_lenT (ed_var rfl)))).to (by simp)) nofun fun _ => sv_skip ?_)
    refine sv_assoc (sv_for (is := [2]) (fun i Γ1 => ∃ a, Γ1 = [.d (.tup xs), .d (.tup xs), a]) (wd_rng1 (ea_cons (ed_lenT (ed_var rfl)) an_nil) (by omega) (by omega)) ⟨_, rfl⟩ ?_ ?_)
    · rintro i x Γ1 hx ⟨a, rfl⟩
      obtain ⟨hi, rfl⟩ := rangeE' hx
      refine ⟨_, gd_name, ?_⟩
      have hm : xs[i] ∈ xs := List.getElem_mem hi
      have hat : L2.atI xs (i : Int) = some xs[i] := atI_nat (List.getElem?_eq_getElem hi)
      have hl' : lvls xs + 1 < n + 1 := hl
      refine sv_if (b := false) ((et_not (itr (ed_G (ea_cons (ed_ixT (ed_var rfl) (ed_var rfl) hat) (ea_cons (ed_ixT (ed_var rfl) (ed_var rfl) hat) an_nil)) ⟨xs[i], rfl, by have := lvls_mem hm; omega, okSs_mem ok.2 hm, rfl⟩))).to rfl) nofun fun _ => sv_next ⟨_, rfl⟩
    · rintro Γ1 ⟨a, rfl⟩
      exact sv_rets ed_bl rfl
  | bl b =>
    refine sv_ifs (b := false) ((et_or (a := false) (b := false) (itr (isi (i := 1) rfl nofun (b := false) (by kernel_rfl))) (fun _ => itr (isi (i := 1) rfl nofun (b := false) (by kernel_rfl)))).to rfl) nofun fun _ => sv_skip ?_
    refine sv_ifs (b := false) (et_test ((ed_neB (isi (i := 1) rfl nofun (b := true) (by kernel_rfl)) (isi (i := 0) rfl nofun (b := true) (by kernel_rfl))).to rfl)) nofun fun _ => sv_skip ?_
    refine sv_ifs (b := false) ((et_or (a := false) (b := false) (et_test ((ed_neB (isi (i := 1) rfl nofun (b := true) (by kernel_rfl)) (isi (i := 0) rfl nofun (b := true) (by kernel_rfl))).to rfl)) (fun _ => et_test ((ed_neB (isi (i := 1) rfl nofun (b := false) (by kernel_rfl)) (isi (i := 0) rfl nofun (b := false) (by kernel_rfl))).to rfl))).to rfl) nofun fun _ => sv_skip ?_
    exact sv_ret ((ed_eqB (ed_var rfl) (ed_var rfl)).to (by simp)) rfl
  | int b =>
    refine sv_ifs (b := false) ((et_or (a := false) (b := false) (itr (isi (i := 1) rfl nofun (b := false) (by kernel_rfl))) (fun _ => itr (isi (i := 1) rfl nofun (b := false) (by kernel_rfl)))).to rfl) nofun fun _ => sv_skip ?_
    refine sv_ifs (b := false) (et_test ((ed_neB (isi (i := 1) rfl nofun (b := false) (by kernel_rfl)) (isi (i := 0) rfl nofun (b := false) (by kernel_rfl))).to rfl)) nofun fun _ => sv_skip ?_
    refine sv_ifs (b := false) ((et_or (a := false) (b := false) (et_test ((ed_neB (isi (i := 1) rfl nofun (b := true) (by kernel_rfl)) (isi (i := 0) rfl nofun (b := true) (by kernel_rfl))).to rfl)) (fun _ => et_test ((ed_neB (isi (i := 1) rfl nofun (b := false) (by kernel_rfl)) (isi (i := 0) rfl nofun (b := false) (by kernel_rfl))).to rfl))).to rfl) nofun fun _ => sv_skip ?_
    exact sv_ret ((ed_eqI (ed_var rfl) (ed_var rfl)).to (by simp)) rfl
  | str b =>
    refine sv_ifs (b := false) ((et_or (a := false) (b := false) (itr (isi (i := 1) rfl nofun (b := false) (by kernel_rfl))) (fun _ => itr (isi (i := 1) rfl nofun (b := false) (by kernel_rfl)))).to rfl) nofun fun _ => sv_skip ?_
    refine sv_ifs (b := false) (et_test ((ed_neB (isi (i := 1) rfl nofun (b := false) (by kernel_rfl)) (isi (i := 0) rfl nofun (b := false) (by kernel_rfl))).to rfl)) nofun fun _ => sv_skip ?_
    refine sv_ifs (b := false) ((et_or (a := false) (b := false) (et_test ((ed_neB (isi (i := 1) rfl nofun (b := false) (by kernel_rfl)) (isi (i := 0) rfl nofun (b := false) (by kernel_rfl))).to rfl)) (fun _ => et_test ((ed_neB (isi (i := 1) rfl nofun (b := true) (by kernel_rfl)) (isi (i := 0) rfl nofun (b := true) (by kernel_rfl))).to rfl))).to rfl) nofun fun _ => sv_skip ?_
    exact sv_ret ((ed_eqS (ed_var rfl) (ed_var rfl)).to (by simp)) rfl
theorem df_mk {x : Str} {f : Addr} {fd : FuncData} {k : Nat} {ps : List Str} {sp : Sp} (F : FnOk P w K mg base CX0 k f fd ps sp) (m : mg x = some (.ref f)) (kp : PySem.W.keepIn K (.ref f) = true) (b : Binds K fd ps []) : Df P w K mg base k x ps sp := ⟨⟨f, fd, F, m, kp, b⟩⟩
theorem ok_same {f : Addr} {fd : FuncData} (F : Fun K "_law_same" "_law_same" s_law_same f fd) (T : Txt mg) (m : mg "_law_same" = some (.ref f)) (b : Binds K fd ["actual", "due"] []) : ∀ n, FnOk P w K mg base CX0 n f fd ["actual", "due"] (spG (RSame n))
  | 0 => fn_none fun ds y ⟨x, _, h, _⟩ => by omega
  | n + 1 => ok_same1 F T (df_mk (ok_same F T m b n) m F.kp b)

/-! ### the draws -/
/-- the pairs of w -/
def wk (dd : Addr) (n : Int) : List (Key × V) := [(Sum.inr "draws", .ref dd), (Sum.inr "at", .int n)]
structure WP where
  dw : Addr
  dd : Addr
  ns : List Int
def Ww (p : WP) : Wd where
  M := fun a => a = p.dw ∨ a = p.dd
  I := fun H => p.ns.length ≤ 50000 ∧ ∃ n : Int, 0 ≤ n ∧ H p.dw = some (.dK (wk p.dd n)) ∧ H p.dd = some (.lst (p.ns.map V.int))
  there := fun H a ⟨_, n, _, h1, h2⟩ m => by
    rcases m with rfl | rfl
    · rw [h1]; exact nofun
    · rw [h2]; exact nofun
  notup := fun H a ⟨_, n, _, h1, h2⟩ m xs => by
    rcases m with rfl | rfl
    · rw [h1]; exact nofun
    · rw [h2]; exact nofun
  stable := fun H H' k _ ⟨l, n, h0, h1, h2⟩ => ⟨l, n, h0, by rw [k _ (.inl rfl)]; exact h1, by rw [k _ (.inr rfl)]; exact h2⟩
abbrev rw (p : WP) : D := .raw (.ref p.dw)
theorem wk_at (dd : Addr) (n : Int) : valV (wk dd n) (Sum.inr ("at" : Str)) = some (.int n) := by kernel_rfl
theorem wk_dr (dd : Addr) (n : Int) : valV (wk dd n) (Sum.inr ("draws" : Str)) = some (.ref dd) := by kernel_rfl
theorem wk_put (dd : Addr) (n m : Int) : putK (wk dd n) (Sum.inr ("at" : Str)) (.int m) = wk dd m := by kernel_rfl
theorem dget {H : Hp} {a : Addr} {kvs : List (Key × V)} {k : Str} {v : V} (e : H a = some (.dK kvs)) (h : valV kvs (Sum.inr k) = some v) : DGet H a (.str k) (some v) := h ▸ DGet.k (k := (Sum.inr k : Key)) e
def okNext (p : WP) (ds : List D) : Prop := ∃ m : Int, ds = [rw p, .int m] ∧ 0 < m
def PNext (ds : List D) (y : D) : Prop := ∀ w m, ds = [w, .int m] → ∃ n : Int, y = .int n ∧ 0 ≤ n ∧ n < m
theorem sc_law_next : FnScope ["w", "many"] ["w", "many"] (defScope s_law_next) := ⟨rfl, rfl, rfl, by decide +kernel, rfl, by decide +kernel, by decide +kernel⟩
theorem ok_next {f : Addr} {fd : FuncData} (F : Fun K "_law_next" "_law_next" s_law_next f fd) (T : Txt mg) : FnOk P w K mg base CX0 1 f fd ["w", "many"] (spX Ww okNext PNext) := by
  refine F.ok sc_law_next (fun vs H Q E h => ?_) (fun cdv A outer s H vs Q E hr h => ?_)
  · obtain ⟨i, ds, r, _, ⟨m, rfl, _⟩, _⟩ := h
    rw [r.length]
    rfl
  obtain ⟨p, ds, r, hi, ⟨m, rfl, hm⟩, q⟩ := h
  cases r with
  | cons r1 r =>
  cases r with
  | cons r2 r =>
  cases r
  cases r1
  cases r2
  refine ⟨_, (pss_cons (ps_daug (hu_of hr) (pv 0) pe_str pe_int in_add (fun _ _ _ => rfl))
    (pss_cons (ps_if (pt_cmpR op_gt (pe_dget (hu_of hr) (pv 0) pe_str (fun _ _ => rfl)) (pe_callB call_lenS (by rfl) T.b_len bt_len (pa_cons (pe_dget (hu_of hr) (pv 0) pe_str (fun _ _ => rfl)) pa_nil)) (nomark _)) (pss_one (ps_ret pe_int)) pss_nil)
    (pss_one (ps_ret (pe_op op_mod (pe_callTy call_int1 (by rfl) T.b_int bt_int (pa_cons (pe_ix ix_seq (pe_dget (hu_of hr) (pv 0) pe_str (fun _ _ => rfl)) (pe_op op_sub (pe_dget (hu_of hr) (pv 0) pe_str (fun _ _ => rfl)) pe_int) (fun _ _ => rfl)) pa_nil)) (pv 1)))))), ?_⟩
  obtain ⟨l, n, h0, h1, h2⟩ := hi
  have hne : p.dd ≠ p.dw := fun z => by rw [z, h1] at h2; cases h2
  -- w['at'] += 1
  refine ⟨_, rfl, p.dw, _, rfl, dget h1 (wk_at _ _), n, 1, rfl, rfl, _, DPut.k (k := (Sum.inr ("at" : Str) : Key)) h1 (by show 2 < sizeLine; decide), ?_⟩
  rw [wk_put]
  have g1 : (upd H p.dw (.dK (wk p.dd (n + 1)))) p.dw = some (.dK (wk p.dd (n + 1))) := upd_same
  have g2 : (upd H p.dw (.dK (wk p.dd (n + 1)))) p.dd = some (.lst (p.ns.map V.int)) := by rw [upd_ne hne]; exact h2
  have ii : (Ww p).I (upd H p.dw (.dK (wk p.dd (n + 1)))) := ⟨l, n + 1, by omega, g1, g2⟩
  have xx : Xt (Ww p) H (upd H p.dw (.dK (wk p.dd (n + 1)))) := ⟨fun a o e na => by rw [upd_ne fun z => na (.inl z)]; exact e, ii⟩
  generalize upd H p.dw (.dK (wk p.dd (n + 1))) = H1 at *
  refine ⟨_, rfl, p.dw, _, rfl, dget g1 (wk_at _ _), _, rfl, p.dw, _, rfl, dget g1 (wk_dr _ _), p.dd, _, rfl, .inl (.of g2), n + 1, _, rfl, rfl, _, rfl, ?_⟩
  refine ite2 (fun c => ?_) (fun c => ?_)
  · refine q _ (.int 0) _ xx (.int 0) fun w m' e => ?_
    cases e
    exact ⟨0, rfl, Int.le_refl 0, hm⟩
  · have c' : ¬ (((p.ns.map V.int).length : Nat) : Int) < n + 1 := of_decide_eq_false (Bool.eq_false_iff.mpr c)
    rw [List.length_map] at c'
    obtain ⟨k, rfl⟩ := Int.eq_ofNat_of_zero_le h0
    have hk : p.ns[k]? = some p.ns[k] := List.getElem?_eq_getElem (by omega)
    have hat : atI (p.ns.map V.int) ((k : Int) + 1 - 1) = some (.int p.ns[k]) := by
      rw [Int.add_sub_cancel]
      exact atI_nat (by rw [List.getElem?_map, hk]; rfl)
    refine ⟨_, rfl, p.dw, _, rfl, dget g1 (wk_dr _ _), _, rfl, p.dw, _, rfl, dget g1 (wk_at _ _), (k : Int) + 1, 1, rfl, rfl, .inl ⟨p.dd, _, (k : Int) + 1 - 1, _, rfl, rfl, .of g2, hat, ?_⟩⟩
    refine .inl ⟨_, rfl, _, rfl, _, _, rfl, rfl, hm, ?_⟩
    refine q _ (.int (p.ns[k] % m)) _ xx (.int _) fun w m' e => ?_
    cases e
    exact ⟨_, rfl, Int.emod_nonneg _ (by omega), Int.emod_lt_of_pos _ hm⟩

/-! ### _law_draws -/
def spDraws (K : PySem.W.Frag) : Sp := fun vs H Q _ => ∃ (a : Addr) (ns : List Int) (m : Int), vs = [.ref a, .int m] ∧ SqL K H a (ns.map V.int) ∧ ns.length ≤ 63 ∧ 0 ≤ m ∧ m ≤ 1000 ∧
  ∀ (p : Addr) (zs : List Int) (H' : Hp), H p = none → Same H H' → H' p = some (.lst (zs.map V.int)) → zs.length ≤ 50000 → Q (.ref p) H'
theorem mulseed {s : Int} (h0 : 0 ≤ s) (h1 : s < 2147483647) : CMulW s 48271 := wide_mul (a := 31) (b := 16) (by omega) (by decide) (by omega) (by omega) (by omega)
theorem sc_law_draws : FnScope ["script", "many", "draws", "seed", "cell", "number", "k"] ["script", "many"] (defScope s_law_draws) := ⟨rfl, rfl, rfl, by decide +kernel, rfl, by decide +kernel, by decide +kernel⟩
theorem ok_draws {f : Addr} {fd : FuncData} (F : Fun K "_law_draws" "_law_draws" s_law_draws f fd) (T : Txt mg) : FnOk P w K mg base CX0 1 f fd ["script", "many"] (spDraws K) := by
  refine F.ok sc_law_draws (fun vs H Q E h => ?_) (fun cdv A outer s H vs Q E hr h => ?_)
  · obtain ⟨a, ns, m, rfl, _⟩ := h
    rfl
  obtain ⟨a, ns, m, rfl, hS, h63, hm0, hm1, q⟩ := h
  refine ⟨_, (pss_cons (ps_set (i := 2) sc_law_draws.nd rfl (by first | exact Or.inl rfl | exact Or.inr rfl) (pe_lst pa_nil))
    (pss_cons (ps_set (i := 3) sc_law_draws.nd rfl (by first | exact Or.inl rfl | exact Or.inr rfl) pe_int)
    (pss_cons (ps_for PassesOwn.never rfl (pi_list (pv 0)) (pg_name (i := 4) sc_law_draws.nd rfl (by first | exact Or.inl rfl | exact Or.inr rfl))
      (pss_cons (ps_set (i := 5) sc_law_draws.nd rfl (by first | exact Or.inl rfl | exact Or.inr rfl) (pe_callB call_abs (by rfl) T.b_abs bt_abs (pa_cons (pe_callTy call_int1 (by rfl) T.b_int bt_int (pa_cons (pv 4) pa_nil)) pa_nil)))
    (pss_cons (ps_set (i := 3) sc_law_draws.nd rfl (by first | exact Or.inl rfl | exact Or.inr rfl) (pe_op op_mod (pe_callTy call_int1 (by rfl) T.b_int bt_int (pa_cons (pe_op op_addU (pe_op op_addU (pe_op op_mulW (pv 3) pe_int) (pv 5)) pe_int) pa_nil)) pe_int))
    (pss_cons (ps_if (pt_cmpR op_lt (pv 5) (pe_op op_pow pe_int pe_int) (nomark _)) (pss_cons (ps_expr (pe_bm PySem.F.plainAttrs_list PySem.F.slot_list_append PySem.F.type_list_append mt_append (pv 2) (pa_cons (pe_op op_mod (pe_callTy call_int1 (by rfl) T.b_int bt_int (pa_cons (pv 5) pa_nil)) pe_int) pa_nil)))
    (pss_cons (ps_expr (pe_bm PySem.F.plainAttrs_list PySem.F.slot_list_append PySem.F.type_list_append mt_append (pv 2) (pa_cons (pe_op op_mod (pe_callTy call_int1 (by rfl) T.b_int bt_int (pa_cons (pv 3) pa_nil)) pe_int) pa_nil)))
    (pss_one (ps_set (i := 5) sc_law_draws.nd rfl (by first | exact Or.inl rfl | exact Or.inr rfl) pe_int)))) pss_nil)
    (pss_one (ps_for PassesOwn.never rfl (pi_range1 (by rfl) T.b_range (pa_cons pe_int pa_nil)) (pg_name (i := 6) sc_law_draws.nd rfl (by first | exact Or.inl rfl | exact Or.inr rfl))
      (pss_one (ps_if (pt_cmpR op_gt (pv 5) pe_int (nomark _)) (pss_cons (ps_expr (pe_bm PySem.F.plainAttrs_list PySem.F.slot_list_append PySem.F.type_list_append mt_append (pv 2) (pa_cons (pe_op op_mod (pe_callTy call_int1 (by rfl) T.b_int bt_int (pa_cons (pv 5) pa_nil)) pe_int) pa_nil)))
    (pss_one (ps_set (i := 5) sc_law_draws.nd rfl (by first | exact Or.inl rfl | exact Or.inr rfl) (pe_op op_fdiv (pv 5) pe_int)))) pss_nil))))))))
    (pss_cons (ps_for PassesOwn.never rfl (pi_range1 (by rfl) T.b_range (pa_cons (pv 1) pa_nil)) (pg_name (i := 6) sc_law_draws.nd rfl (by first | exact Or.inl rfl | exact Or.inr rfl))
      (pss_cons (ps_set (i := 3) sc_law_draws.nd rfl (by first | exact Or.inl rfl | exact Or.inr rfl) (pe_op op_mod (pe_callTy call_int1 (by rfl) T.b_int bt_int (pa_cons (pe_op op_addU (pe_op op_mulW (pv 3) pe_int) pe_int) pa_nil)) pe_int))
    (pss_one (ps_expr (pe_bm PySem.F.plainAttrs_list PySem.F.slot_list_append PySem.F.type_list_append mt_append (pv 2) (pa_cons (pe_op op_fdiv (pv 3) pe_int) pa_nil))))))
    (pss_one (ps_ret (pv 2))))))), ?_⟩
  -- the slots: script, many, draws, seed, cell, number, k
  let G : Nat → List AV → Prop := fun l Γ => ∃ (zs : List Int) (sd : Int) (b c d : AV), Γ = [.d (.raw (.ref a)), .d (.int m), .l (zs.map D.int), .d (.int sd), b, c, d] ∧ zs.length ≤ l ∧ 0 ≤ sd ∧ sd < 2147483647
  have fin : ∀ t : TS, SVB W0 H t (start0 ["script", "many", "draws", "seed", "cell", "number", "k"] [.raw (.ref a), .int m]) (fun o => ∃ zs : List Int, o = .rl (zs.map D.int) ∧ zs.length ≤ 50000) → t { nx := fun _ H' => Q .non H', rt := Q } (L2.start ["script", "many", "draws", "seed", "cell", "number", "k"] [.ref a, .int m]) H := fun t hL =>
    hL _ H (sl_start W0 trivial (.cons (.raw _) (.cons (.int _) .nil))) _ ⟨fun _ _ _ ⟨_, e, _⟩ => (by cases e), fun _ _ _ ⟨_, e, _⟩ => (by cases e), fun es p xs H' ⟨zs, e, hz⟩ x n e1 r1 => (by
      cases e
      rw [r1.of_ints] at e1
      exact q p zs H' n x.of0 e1 hz), fun _ _ _ ⟨_, e, _⟩ => (by cases e), fun _ _ _ ⟨_, e, _⟩ => (by cases e)⟩
  refine fin _ ?_
  · refine svb_seq (G := fun Γ => Γ = [.d (.raw (.ref a)), .d (.int m), .l [], .no, .no, .no, .no]) (sv_end (sv_setL (el_lst an_nil (by show 0 ≤ 100000; omega)) fun ds e => sv_next ⟨_, rfl, by subst e; rfl⟩)) fun Γ' e => ?_
    subst e
    refine svb_seq (G := G 0) (sv_end (sv_set ed_int (sv_next ⟨_, rfl, [], 7, _, _, _, rfl, by simp, by omega, by omega⟩))) fun Γ' g => ?_
    obtain ⟨zs, sd, b, c, d, rfl, hz, hs0, hs1⟩ := g
    refine svb_forL (fun i => G (62 * i)) hS rfl ⟨zs, sd, b, c, d, rfl, by omega, hs0, hs1⟩ ?_ ?_
    · rintro i z Γ1 hi ⟨zs, sd, b, c, d, rfl, hz, hs0, hs1⟩
      have hil := lt_of_get hi
      refine sv_set (ed_abs (ed_int1 (ed_var rfl))) ?_
      have hn0 : 0 ≤ (if z < 0 then -z else z) := by split <;> omega
      generalize (if z < 0 then -z else z) = n at hn0
      refine sv_set (ed_mod (ed_int1 (ed_addI (ed_addI (ed_mul (ed_var rfl) ed_int (mulseed hs0 hs1)) (ed_var rfl)) ed_int)) ed_int (by omega)) ?_
      have k0 : 0 ≤ (sd * 48271 + n + 1) % 2147483647 := Int.emod_nonneg _ (by omega)
      have k1 : (sd * 48271 + n + 1) % 2147483647 < 2147483647 := Int.emod_lt_of_pos _ (by omega)
      generalize (sd * 48271 + n + 1) % 2147483647 = sd2 at k0 k1
      have lp : ∀ {O : Out → Prop} {u : TS} (zs : List Int) (n : Int), zs.length ≤ 62 * i + 2 → 0 ≤ n → (∀ (zs : List Int) (n : Int) (d : AV), zs.length ≤ 62 * (i + 1) → SV W0 u [.d (.raw (.ref a)), .d (.int m), .l (zs.map D.int), .d (.int sd2), .d (.int z), .d (.int n), d] O) → ∀ d : AV, SV W0 (tSeq (tFor (iRng1 (tCons (tC (.int 60)) tNil)) (gName 6) (tIfS (tTest (tOp rGtI (tVar 5) (tC (.int 0)))) (tSeq (tDrop (tBM K "list" rAppend (tVar 2) (tCons (tOp rModI (tCB rInt1 (tCons (tVar 5) tNil)) (tC (.int 997))) tNil))) (tAsg (tOp rDivI (tVar 5) (tC (.int 997))) (gName 5))) tNext)) u) [.d (.raw (.ref a)), .d (.int m), .l (zs.map D.int), .d (.int sd2), .d (.int z), .d (.int n), d] O := fun {O u} zs n hz hn ku d => by
        refine sv_for (is := [6]) (fun j Γ1 => ∃ (zs : List Int) (n : Int) (d : AV), Γ1 = [.d (.raw (.ref a)), .d (.int m), .l (zs.map D.int), .d (.int sd2), .d (.int z), .d (.int n), d] ∧ zs.length ≤ 62 * i + 2 + j ∧ 0 ≤ n) (wd_rng1 (ea_cons ed_int an_nil) (by omega) (by omega)) ⟨zs, n, d, rfl, hz, hn⟩ ?_ ?_
        · rintro j x Γ1 hx ⟨zs, n, d, rfl, hz, hn⟩
          obtain ⟨hj, rfl⟩ := rangeD_get hx
          have hj' : j < 60 := hj
          refine ⟨_, gd_name, ?_⟩
          refine sv_if (et_test (ed_gt (ed_var rfl) ed_int)) (fun hb => ?_) fun hb => sv_next ⟨zs, n, _, rfl, by omega, hn⟩
          refine sv_app rfl (ed_mod (ed_int1 (ed_var rfl)) ed_int (by omega)) (by rw [List.length_map]; omega) ?_
          refine sv_end (sv_set (ed_div (ed_var rfl) ed_int ⟨by omega, by omega⟩) (sv_next ⟨zs ++ [n % 997], n / 997, .d (.int (0 + (j : Int))), ?_, by simp; omega, Int.ediv_nonneg hn (by omega)⟩))
          rw [List.map_append]
          rfl
        · rintro Γ1 ⟨zs, n, d, rfl, hz, hn⟩
          have : (rangeD 0 (60 : Int).toNat).length = 60 := by simp [rangeD]
          exact ku zs n d (by omega)
      refine sv_ifs (et_test (ed_lt (ed_var rfl) (ed_pow ed_int ed_int (by unfold CPow; decide)))) (fun hb => ?_) fun hb => sv_skip ?_
      · refine sv_assoc (sv_app rfl (ed_mod (ed_int1 (ed_var rfl)) ed_int (by omega)) (by rw [List.length_map]; omega) ?_)
        refine sv_assoc (sv_app rfl (ed_mod (ed_int1 (ed_var rfl)) ed_int (by omega)) (by simp; omega) ?_)
        refine sv_set ed_int ?_
        have e : zs.map D.int ++ [D.int (n % 997)] ++ [D.int (sd2 % 65521)] = (zs ++ [n % 997, sd2 % 65521]).map D.int := by simp
        show SV W0 _ [.d (.raw (.ref a)), .d (.int m), .l (zs.map D.int ++ [D.int (n % 997)] ++ [D.int (sd2 % 65521)]), .d (.int sd2), .d (.int z), .d (.int 0), d] _
        rw [e]
        exact sv_end (lp _ 0 (by simp; omega) (by omega) (fun zs n d hz => sv_next ⟨_, rfl, zs, sd2, _, _, _, rfl, by omega, k0, k1⟩) d)
      · exact sv_end (lp zs n (by omega) hn0 (fun zs n d hz => sv_next ⟨_, rfl, zs, sd2, _, _, _, rfl, by omega, k0, k1⟩) d)
    · rintro Γ1 ⟨zs, sd, b, c, d, rfl, hz, hs0, hs1⟩
      refine SV.b (sv_for (is := [6]) (fun j Γ1 => ∃ (zs : List Int) (sd : Int) (b c d : AV), Γ1 = [.d (.raw (.ref a)), .d (.int m), .l (zs.map D.int), .d (.int sd), b, c, d] ∧ zs.length ≤ 62 * ns.length + j ∧ 0 ≤ sd ∧ sd < 2147483647) (wd_rng1 (ea_cons (ed_var rfl) an_nil) (by omega) (by omega)) ⟨zs, sd, b, c, d, rfl, hz, hs0, hs1⟩ ?_ ?_)
      · rintro j x Γ1 hx ⟨zs, sd, b, c, d, rfl, hz, hs0, hs1⟩
        obtain ⟨hj, rfl⟩ := rangeD_get hx
        refine ⟨_, gd_name, ?_⟩
        refine sv_set (ed_mod (ed_int1 (ed_addI (ed_mul (ed_var rfl) ed_int (mulseed hs0 hs1)) ed_int)) ed_int (by omega)) ?_
        have k0 : 0 ≤ (sd * 48271 + 69621) % 2147483647 := Int.emod_nonneg _ (by omega)
        have k1 : (sd * 48271 + 69621) % 2147483647 < 2147483647 := Int.emod_lt_of_pos _ (by omega)
        generalize (sd * 48271 + 69621) % 2147483647 = sd2 at k0 k1
        refine sv_end (sv_app rfl (ed_div (ed_var rfl) ed_int ⟨by omega, by omega⟩) (by rw [List.length_map]; omega) (sv_next ⟨zs ++ [sd2 / 5], sd2, b, c, .d (.int (0 + (j : Int))), ?_, by simp; omega, k0, k1⟩))
        rw [List.map_append]
        rfl
      · rintro Γ1 ⟨zs, sd, b, c, d, rfl, hz, hs0, hs1⟩
        have hl : (rangeD 0 m.toNat).length = m.toNat := by simp [rangeD]
        exact sv_retV rfl ⟨zs, rfl, by omega⟩

end
end Cm
end Ta

set_option Elab.async false
set_option maxRecDepth 100000
set_option linter.unusedVariables false
set_option maxHeartbeats 4000000
namespace Ta
open PySem L2 Ly K51
section
variable {P : Program} {w : World} {K : PySem.W.Frag} {mg : Str → Option Value} {base : Heap}
/-! ### _law_shapes -/
theorem shapes_sz : ∀ f ≤ 7, ∀ n ≤ 6, ∀ m ≤ 6, (shapes f n m).length ≤ 50 ∧ ∀ p ∈ shapes f n m, p.length ≤ 10 := by
  have h : (List.range 8).all (fun f => (List.range 7).all fun n => (List.range 7).all fun m => decide ((shapes f n m).length ≤ 50) && (shapes f n m).all fun p => decide (p.length ≤ 10)) = true := by decide +kernel
  intro f hf n hn m hm
  have h1 := List.all_eq_true.mp (List.all_eq_true.mp (List.all_eq_true.mp h f (List.mem_range.mpr (by omega))) n (List.mem_range.mpr (by omega))) m (List.mem_range.mpr (by omega))
  rw [Bool.and_eq_true, decide_eq_true_eq, List.all_eq_true] at h1
  exact ⟨h1.1, fun p hp => of_decide_eq_true (h1.2 p hp)⟩
def RShps (f : Nat) : List D → List D → Prop := fun ds es => ∃ n m : Nat, ds = [dI n, dI m] ∧ n < f ∧ n ≤ 6 ∧ m ≤ 6 ∧ es = (shapes f n m).map dR
theorem flat_take_le {α β : Type} (l : List α) (g : α → List β) (i : Nat) : ((l.take i).flatMap g).length ≤ (l.flatMap g).length := by
  conv => rhs; rw [← List.take_append_drop i l, List.flatMap_append, List.length_append]
  omega
theorem sc_law_shapes : FnScope ["n", "most", "found", "part", "rest"] ["n", "most"] (defScope s_law_shapes) := ⟨rfl, rfl, rfl, by decide +kernel, rfl, by decide +kernel, by decide +kernel⟩
theorem ok_shps1 {n0 : Nat} (hn0 : n0 + 1 ≤ 7) {f : Addr} {fd : FuncData} (F : Fun K "_law_shapes" "_law_shapes" s_law_shapes f fd) (T : Txt mg) (h_law_shapes : Df P w K mg base n0 "_law_shapes" ["n", "most"] (spGL (RShps n0))) : FnOk P w K mg base CX0 (n0 + 1) f fd ["n", "most"] (spGL (RShps (n0 + 1))) := by
  refine fn_GL F sc_law_shapes (by rintro ds y ⟨n, m, rfl, _⟩; rfl) fun cdv A outer s H E hr ds y hd => ?_
  obtain ⟨n, m, rfl, hn, hn6, hm6, rfl⟩ := hd
  refine ⟨_, (pss_cons (ps_if (pt_cmpR (op_eqU (hr.units)) (pv 0) pe_int (nomark _)) (pss_one (ps_ret (pe_lst (pa_cons (pe_tup pa_nil) pa_nil)))) pss_nil)
    (pss_cons (ps_set (i := 2) sc_law_shapes.nd rfl (by first | exact Or.inl rfl | exact Or.inr rfl) (pe_lst pa_nil))
    (pss_cons (ps_for PassesOwn.never rfl (pi_range3 (by rfl) T.b_range (pa_cons (pe_callB (call_min2 rfl) (by rfl) T.b_min bt_min (pa_cons (pv 0) (pa_cons (pv 1) pa_nil))) (pa_cons pe_int (pa_cons (pe_un un_neg pe_int) pa_nil)))) (pg_name (i := 3) sc_law_shapes.nd rfl (by first | exact Or.inl rfl | exact Or.inr rfl))
      (pss_one (ps_set (i := 2) sc_law_shapes.nd rfl (by first | exact Or.inl rfl | exact Or.inr rfl) (pe_op op_addU (pv 2) (pe_lc (own := [("rest", 4)]) (g := (gName 4)) (tt := tYes) (te := (tOp (rAddU K) (tTup (tCons (tVar 3) tNil)) (tVar 4))) rfl sc_law_shapes.nd (pi_list (pe_df h_law_shapes (hr.mono (by omega)) (by rfl) (pa_cons (pe_op op_sub (pv 0) (pv 3)) (pa_cons (pv 3) pa_nil)))) (blkOk_by (by kernel_rfl)) (fun _ _ _ _ _ => (pg_name (i := 4) sc_law_shapes.nd rfl (by first | exact Or.inl rfl | exact Or.inr rfl))) (fun _ _ _ _ _ => pts_nil) (fun _ _ _ _ _ => (pe_op op_addU (pe_tup (pa_cons (pv 3) pa_nil)) (pv 4))))))))
    (pss_one (ps_ret (pv 2)))))), ?_⟩
  show SV W0 _ [.d (dI n), .d (dI m), .no, .no, .no] _
  refine sv_ifs (et_test (ed_eqI (ed_var rfl) ed_int)) (fun hb => ?_) fun hb => sv_skip ?_
  · have : n = 0 := by have := of_decide_eq_true hb; omega
    subst this
    refine sv_retsL ((el_lst (ea_cons (ed_tup an_nil (by show 0 ≤ 100000; omega)) an_nil) (by simp))) ?_
    rw [shapes, if_pos rfl]
    rfl
  · have h0 : n ≠ 0 := by
      intro z
      subst z
      simp at hb
    refine sv_setL (el_lst an_nil (by show 0 ≤ 100000; omega)) fun ds e => ?_
    subst e
    have emin : (if (m : Int) < (n : Int) then (m : Int) else (n : Int)) = ((min n m : Nat) : Int) := by split <;> omega
    generalize hM : min n m = M at emin
    have hMn : M ≤ n := by omega
    have hM6 : M ≤ 6 := by omega
    let gg : Nat → List (List Nat) := fun k => (shapes n0 (n - (M - k)) (M - k)).map ((M - k) :: ·)
    have hsh : shapes (n0 + 1) n m = (List.range M).flatMap gg := by rw [shapes, if_neg h0, hM]
    have tot : ((List.range M).flatMap gg).length ≤ 50 := hsh ▸ (shapes_sz (n0 + 1) hn0 n hn6 m hm6).1
    refine sv_for (is := [3]) (fun i Γ1 => ∃ a b, Γ1 = [.d (dI n), .d (dI m), .l ((((List.range M).take i).flatMap gg).map dR), a, b]) (wd_down (ea_cons ((ed_min2 (ed_var rfl) (ed_var rfl)).to (congrArg D.int emin)) (ea_cons ed_int (ea_cons (ed_un ed_int ru_neg) an_nil))) (by omega) (by omega) (by omega) (by omega)) ⟨_, _, rfl⟩ ?_ ?_
    · rintro i x Γ1 hx ⟨a, b, rfl⟩
      have hiM : i < M := by
        have := lt_of_get hx
        simp at this
        omega
      have hx' : x = dI (M - i) := by
        rw [List.getElem?_map, List.getElem?_range (by simp; omega)] at hx
        cases hx
        show D.int _ = D.int _
        congr 1
        omega
      subst hx'
      refine ⟨_, gd_name, ?_⟩
      have hri : (List.range M)[i]? = some i := by rw [List.getElem?_range hiM]
      have tks : ((List.range M).take (i + 1)).flatMap gg = ((List.range M).take i).flatMap gg ++ gg i := by rw [take_succ_get hri, List.flatMap_append]; simp
      obtain ⟨z1, z2⟩ := shapes_sz n0 (by omega) (n - (M - i)) (by omega) (M - i) (by omega)
      have l1 := flat_take_le (List.range M) gg i
      have e2 : (((List.range M).take i).flatMap gg).map dR ++ (shapes n0 (n - (M - i)) (M - i)).map (fun r => D.tup (dI (M - i) :: r.map dI)) = (((List.range M).take (i + 1)).flatMap gg).map dR := by
        rw [tks, List.map_append]
        congr 1
        show _ = ((shapes n0 (n - (M - i)) (M - i)).map ((M - i) :: ·)).map dR
        rw [List.map_map]
        rfl
      refine sv_end (sv_setL (A := fun es => es = (((List.range M).take (i + 1)).flatMap gg).map dR) ((el_addL (er_var rfl) (el_map (l := shapes n0 (n - (M - i)) (M - i)) (enc := dR) (f := fun r => D.tup (dI (M - i) :: r.map dI)) (wd_lst (el_G (ea_cons ((ed_sub (ed_var rfl) (ed_var rfl)).to (y := dI (n - (M - i))) ?_) (ea_cons (ed_var rfl) an_nil)) ⟨n - (M - i), M - i, rfl, by omega, by omega, by omega, rfl⟩)) (fun r hr => ed_addT (ed_tup (ea_cons (ed_var rfl) an_nil) (by simp)) (ed_var rfl) (by have := z2 r hr; simp; omega)) (by omega)).er (by simp only [List.length_map]; omega)).to e2) fun es e => ?_)
      · show D.int _ = D.int _
        congr 1
        omega
      · subst e
        exact sv_next ⟨_, _, rfl⟩
    · rintro Γ1 ⟨a, b, rfl⟩
      refine sv_retV rfl ?_
      rw [hsh]
      have e3 : (List.range M).take ((List.range (((M : Nat) : Int) - 0).toNat).map fun (k : Nat) => D.int ((M : Int) + (k : Int) * (-1))).length = List.range M := by
        simp
      rw [e3]
theorem ok_shps {f : Addr} {fd : FuncData} (F : Fun K "_law_shapes" "_law_shapes" s_law_shapes f fd) (T : Txt mg) (m : mg "_law_shapes" = some (.ref f)) (b : Binds K fd ["n", "most"] []) : ∀ n, n ≤ 7 → FnOk P w K mg base CX0 n f fd ["n", "most"] (spGL (RShps n))
  | 0, _ => Cm.fn_noneL fun ds y ⟨n, m, _, h, _⟩ => by omega
  | n + 1, h => ok_shps1 h F T (Cm.df_mk (ok_shps F T m b n (by omega)) m F.kp b)
/-! ### _law_turns -/
theorem turns_sz : ∀ n ≤ 6, (turns n).length ≤ 720 ∧ ∀ p ∈ turns n, p.length = n := by
  have h : (List.range 7).all (fun n => decide ((turns n).length ≤ 720) && (turns n).all fun p => decide (p.length = n)) = true := by decide +kernel
  intro n hn
  have h1 := List.all_eq_true.mp h n (List.mem_range.mpr (by omega))
  rw [Bool.and_eq_true, decide_eq_true_eq, List.all_eq_true] at h1
  exact ⟨h1.1, fun p hp => of_decide_eq_true (h1.2 p hp)⟩
def RTurns (f : Nat) : List D → List D → Prop := fun ds es => ∃ n : Nat, ds = [dI n] ∧ n < f ∧ n ≤ 6 ∧ es = (turns n).map dR
theorem sc_law_turns : FnScope ["n", "found", "rest", "k"] ["n"] (defScope s_law_turns) := ⟨rfl, rfl, rfl, by decide +kernel, rfl, by decide +kernel, by decide +kernel⟩
theorem ok_turns1 {n0 : Nat} {f : Addr} {fd : FuncData} (F : Fun K "_law_turns" "_law_turns" s_law_turns f fd) (T : Txt mg) (h_law_turns : Df P w K mg base n0 "_law_turns" ["n"] (spGL (RTurns n0))) : FnOk P w K mg base CX0 (n0 + 1) f fd ["n"] (spGL (RTurns (n0 + 1))) := by
  refine fn_GL F sc_law_turns (by rintro ds y ⟨n, rfl, _⟩; rfl) fun cdv A outer s H E hr ds y hd => ?_
  obtain ⟨n, rfl, hn, hn6, rfl⟩ := hd
  refine ⟨_, (pss_cons (ps_if (pt_cmpR (op_eqU (hr.units)) (pv 0) pe_int (nomark _)) (pss_one (ps_ret (pe_lst (pa_cons (pe_tup pa_nil) pa_nil)))) pss_nil)
    (pss_cons (ps_set (i := 1) sc_law_turns.nd rfl (by first | exact Or.inl rfl | exact Or.inr rfl) (pe_lst pa_nil))
    (pss_cons (ps_for PassesOwn.never rfl (pi_list (pe_df h_law_turns (hr.mono (by omega)) (by rfl) (pa_cons (pe_op op_sub (pv 0) pe_int) pa_nil))) (pg_name (i := 2) sc_law_turns.nd rfl (by first | exact Or.inl rfl | exact Or.inr rfl))
      (pss_one (ps_set (i := 1) sc_law_turns.nd rfl (by first | exact Or.inl rfl | exact Or.inr rfl) (pe_op op_addU (pv 1) (pe_lc (own := [("k", 3)]) (g := (gName 3)) (tt := tYes) (te := (tOp (rAddU K) (tOp (rAddU K) (tSl (rSlA K) (tVar 2) tNoPart (tPart (tVar 3))) (tTup (tCons (tOp rSubI (tVar 0) (tC (.int 1))) tNil))) (tSl (rSlA K) (tVar 2) (tPart (tVar 3)) tNoPart))) rfl sc_law_turns.nd (pi_range1 (by rfl) T.b_range (pa_cons (pv 0) pa_nil)) (blkOk_by (by kernel_rfl)) (fun _ _ _ _ _ => (pg_name (i := 3) sc_law_turns.nd rfl (by first | exact Or.inl rfl | exact Or.inr rfl))) (fun _ _ _ _ _ => pts_nil) (fun _ _ _ _ _ => (pe_op op_addU (pe_op op_addU (pe_slice sl_tupA (pv 2) po_none (po_some (pv 3))) (pe_tup (pa_cons (pe_op op_sub (pv 0) pe_int) pa_nil))) (pe_slice sl_tupA (pv 2) (po_some (pv 3)) po_none))))))))
    (pss_one (ps_ret (pv 1)))))), ?_⟩
  show SV W0 _ [.d (dI n), .no, .no, .no] _
  refine sv_ifs (et_test (ed_eqI (ed_var rfl) ed_int)) (fun hb => ?_) fun hb => sv_skip ?_
  · have : n = 0 := by have := of_decide_eq_true hb; omega
    subst this
    exact sv_retsL ((el_lst (ea_cons (ed_tup an_nil (by show 0 ≤ 100000; omega)) an_nil) (by simp))) rfl
  · cases n with
    | zero => simp at hb
    | succ n =>
    refine sv_setL (el_lst an_nil (by show 0 ≤ 100000; omega)) fun ds e => ?_
    subst e
    obtain ⟨t1, t2⟩ := turns_sz n (by omega)
    let gg : List Nat → List (List Nat) := fun rest => (List.range (n + 1)).map fun k => rest.take k ++ n :: rest.drop k
    have htot : ∀ i, (((turns n).take i).flatMap gg).length ≤ 720 * 7 := fun i => by
      have : ∀ l : List (List Nat), (l.flatMap gg).length = l.length * (n + 1) := fun l => by
        induction l with
        | nil => simp
        | cons a l ih => rw [List.flatMap_cons, List.length_append, ih]; simp [gg, Nat.add_mul]; omega
      rw [this]
      exact Nat.mul_le_mul (Nat.le_trans (by rw [List.length_take]; omega) t1) (by omega)
    refine sv_for (is := [2]) (fun i Γ1 => ∃ a b, Γ1 = [.d (dI (n + 1)), .l ((((turns n).take i).flatMap gg).map dR), a, b]) (wd_lst (el_G (ea_cons ((ed_sub (ed_var rfl) ed_int).to (y := dI n) ?_) an_nil) ⟨n, rfl, by omega, by omega, rfl⟩)) ⟨_, _, rfl⟩ ?_ ?_
    · show D.int _ = D.int _
      congr 1
      omega
    · rintro i x Γ1 hx ⟨a, b, rfl⟩
      obtain ⟨rest, hr0, rfl⟩ : ∃ r, (turns n)[i]? = some r ∧ dR r = x := by simpa using hx
      refine ⟨_, gd_name, ?_⟩
      have hrl : rest.length = n := t2 rest (List.mem_of_getElem? hr0)
      have tks : ((turns n).take (i + 1)).flatMap gg = ((turns n).take i).flatMap gg ++ gg rest := by rw [take_succ_get hr0, List.flatMap_append]; simp
      have e2 : (((turns n).take i).flatMap gg).map dR ++ (List.range (n + 1)).map (fun k => dR (rest.take k ++ n :: rest.drop k)) = (((turns n).take (i + 1)).flatMap gg).map dR := by
        rw [tks, List.map_append]
        congr 1
        show _ = ((List.range (n + 1)).map fun k => rest.take k ++ n :: rest.drop k).map dR
        rw [List.map_map]
        rfl
      have l1 := htot i
      refine sv_end (sv_setL (A := fun es => es = (((turns n).take (i + 1)).flatMap gg).map dR) ((el_addL (er_var rfl) (el_map (l := List.range (n + 1)) (enc := dI) (f := fun k => dR (rest.take k ++ n :: rest.drop k)) ?_ (fun k hk => ?_) (by simp; omega)).er (by simp only [List.length_map, List.length_range]; omega)).to e2) fun es e => ?_)
      · have := wd_rng1 (W := W0) (Γ := ([.d (dI (n + 1)), .l ((((turns n).take i).flatMap gg).map dR), a, b] : List AV).set 2 (.d (dR rest))) (j := ((n + 1 : Nat) : Int)) (ea_cons (ed_var (i := 0) rfl) an_nil) (by omega) (by omega)
        rw [Int.toNat_natCast, rangeD0] at this
        exact this
      · have hk' := List.mem_range.mp hk
        have c1 : cutD (rest.map dI) none (some (k : Int)) = (rest.take k).map dI := by rw [cutD_take, List.map_take]
        have c2 : cutD (rest.map dI) (some (k : Int)) none = (rest.drop k).map dI := by rw [cutD_drop, List.map_drop]
        refine (ed_addT (ed_addT ((ed_sl (lo := none) (hi := some (k : Int)) (ed_var rfl) eo_none (eo_some (ed_var rfl))).to (congrArg D.tup c1)) (ed_tup (ea_cons ((ed_sub (ed_var rfl) ed_int).to (y := dI n) ?_) an_nil) (by simp)) (by simp; omega)) ((ed_sl (lo := some (k : Int)) (hi := none) (ed_var rfl) (eo_some (ed_var rfl)) eo_none).to (congrArg D.tup c2)) (by simp; omega)).to ?_
        · show D.int _ = D.int _
          congr 1
          omega
        · simp [dR]
      · subst e
        exact sv_next ⟨_, _, rfl⟩
    · rintro Γ1 ⟨a, b, rfl⟩
      refine sv_retV rfl ?_
      rw [List.length_map, List.take_length]
      rfl
theorem ok_turns {f : Addr} {fd : FuncData} (F : Fun K "_law_turns" "_law_turns" s_law_turns f fd) (T : Txt mg) (m : mg "_law_turns" = some (.ref f)) (b : Binds K fd ["n"] []) : ∀ n, FnOk P w K mg base CX0 n f fd ["n"] (spGL (RTurns n))
  | 0 => Cm.fn_noneL fun ds y ⟨n, _, h, _⟩ => by omega
  | n + 1 => ok_turns1 F T (Cm.df_mk (ok_turns F T m b n) m F.kp b)
end
end Ta

set_option Elab.async false
set_option maxRecDepth 100000
set_option linter.unusedVariables false
set_option maxHeartbeats 4000000
namespace Ta
open PySem L2 Ly K51
section
variable {P : Program} {w : World} {K : PySem.W.Frag} {mg : Str → Option Value} {base : Heap}
/-! ### _law_longest -/
theorem range_filter {α β : Type} (p : α → Bool) (g : α → β) (d : α) : ∀ l : List α, ((List.range l.length).filter fun j => p (l.getD j d)).map (fun j => g (l.getD j d)) = (l.filter p).map g
  | [] => rfl
  | a :: l => by
    have ih := range_filter p g d l
    rw [List.length_cons, List.range_succ_eq_map, List.filter_cons, List.filter_map]
    simp only [List.getD_cons_zero]
    have e : (fun j => p ((a :: l).getD j d)) ∘ Nat.succ = fun j => p (l.getD j d) := by funext j; rfl
    rw [e, List.filter_cons]
    split
    · simp only [List.map_cons, List.getD_cons_zero, List.map_map]
      rw [← ih]
      rfl
    · simp only [List.map_map]
      rw [← ih]
      rfl
theorem best_snoc (b : Bool) (w : List Nat) (x : Nat) : best b (w ++ [x]) = bestStep b (best b w) x := by simp [best]
theorem best_fst (b : Bool) : ∀ w : List Nat, ∀ i, (best b (w.take i)).map (·.1) = w.take i
  | w, 0 => by simp [best]
  | w, i + 1 => by
    cases e : w[i]? with
    | none =>
      have h : w.length ≤ i := List.getElem?_eq_none_iff.mp e
      have := best_fst b w i
      rw [List.take_of_length_le h] at this
      rw [List.take_of_length_le (by omega)]
      exact this
    | some x =>
      rw [take_succ_get e, best_snoc, bestStep, List.map_append, best_fst b w i]
      rfl
theorem max_of {l : List Nat} : (maxl l : Int) ∈ (l.map fun (n : Nat) => (n : Int)) ++ [0] ∧ ∀ y ∈ (l.map fun (n : Nat) => (n : Int)) ++ [0], y ≤ (maxl l : Int) := by
  obtain ⟨h1, h2⟩ := maxl_mem l 0
  refine ⟨?_, fun y hy => ?_⟩
  · rcases List.mem_cons.mp h1 with e | e
    · unfold maxl; rw [e]; simp
    · exact List.mem_append_left _ (List.mem_map.mpr ⟨_, e, rfl⟩)
  · rcases List.mem_append.mp hy with h | h
    · obtain ⟨a, ha, rfl⟩ := List.mem_map.mp h
      exact Int.ofNat_le.mpr (h2 a (List.mem_cons_of_mem _ ha))
    · simp at h
      subst h
      exact Int.natCast_nonneg _
def RLong : List D → D → Prop := fun ds y => ∃ (v : List Nat) (b : Bool), ds = [dR v, .bl b] ∧ v.length ≤ 100 ∧ y = dI (longest b v)
theorem sc_law_longest : FnScope ["word", "falls", "best", "k", "able", "j"] ["word", "falls"] (defScope s_law_longest) := ⟨rfl, rfl, rfl, by decide +kernel, rfl, by decide +kernel, by decide +kernel⟩
theorem ok_long {f : Addr} {fd : FuncData} (F : Fun K "_law_longest" "_law_longest" s_law_longest f fd) (T : Txt mg) : FnOk P w K mg base CX0 1 f fd ["word", "falls"] (spG RLong) := by
  refine fn_G F sc_law_longest (by rintro ds y ⟨n, m, rfl, _⟩; rfl) fun cdv A outer s H E hr ds y hd => ?_
  obtain ⟨v, b, rfl, hv, rfl⟩ := hd
  refine ⟨_, (pss_cons (ps_set (i := 2) sc_law_longest.nd rfl (by first | exact Or.inl rfl | exact Or.inr rfl) (pe_lst pa_nil))
    (pss_cons (ps_for PassesOwn.never rfl (pi_range1 (by rfl) T.b_range (pa_cons (pe_callB call_lenS (by rfl) T.b_len bt_len (pa_cons (pv 0) pa_nil)) pa_nil)) (pg_name (i := 3) sc_law_longest.nd rfl (by first | exact Or.inl rfl | exact Or.inr rfl))
      (pss_cons (ps_setLc (i := 4) (own := [("j", 5)]) (g := (gName 5)) (tt := (tIfT (tTr K (tVar 1)) (tTest (tOp rGtI (tOp (rIx K) (tVar 0) (tVar 5)) (tOp (rIx K) (tVar 0) (tVar 3)))) (tTest (tOp rLeI (tOp (rIx K) (tVar 0) (tVar 5)) (tOp (rIx K) (tVar 0) (tVar 3)))))) (te := (tOp (rIx K) (tVar 2) (tVar 5))) rfl sc_law_longest.nd rfl rfl (sw_true rfl rfl rfl (by decide +kernel)) (pi_range1 (by rfl) T.b_range (pa_cons (pv 3) pa_nil)) (blkOk_by (by kernel_rfl)) (fun _ _ _ _ _ => (pg_name (i := 5) sc_law_longest.nd rfl (by first | exact Or.inl rfl | exact Or.inr rfl))) (fun _ _ _ _ _ => (pts_one (pt_ifE (pt_tr (pv 1)) (pt_cmpR op_gt (pe_ix ix_seq (pv 0) (pv 5) (fun _ _ => rfl)) (pe_ix ix_seq (pv 0) (pv 3) (fun _ _ => rfl)) (nomark _)) (pt_cmpR op_le (pe_ix ix_seq (pv 0) (pv 5) (fun _ _ => rfl)) (pe_ix ix_seq (pv 0) (pv 3) (fun _ _ => rfl)) (nomark _))))) (fun _ _ _ _ _ => (pe_ix ix_seq (pv 2) (pv 5) (fun _ _ => rfl))))
    (pss_one (ps_expr (pe_bm PySem.F.plainAttrs_list PySem.F.slot_list_append PySem.F.type_list_append mt_append (pv 2) (pa_cons (pe_op op_addU pe_int (pe_callB (cr_max rfl) (by rfl) T.b_max bt_max (pa_cons (pe_op op_addU (pv 4) (pe_lst (pa_cons pe_int pa_nil))) pa_nil))) pa_nil))))))
    (pss_one (ps_ret (pe_callB (cr_max rfl) (by rfl) T.b_max bt_max (pa_cons (pe_op op_addU (pv 2) (pe_lst (pa_cons pe_int pa_nil))) pa_nil)))))), ?_⟩
  show SV W0 _ [.d (dR v), .d (.bl b), .no, .no, .no, .no] _
  refine sv_setL (el_lst an_nil (by show 0 ≤ 100000; omega)) fun ds e => ?_
  subst e
  refine sv_for (is := [3]) (fun i Γ1 => ∃ a c d, Γ1 = [.d (dR v), .d (.bl b), .l (((best b (v.take i)).map (·.2)).map dI), a, c, d]) (wd_rng1 (ea_cons (ed_lenT (ed_var rfl)) an_nil) (by omega) (by simp; omega)) ⟨_, _, _, rfl⟩ ?_ ?_
  · rintro i x Γ1 hx ⟨a, c, d, rfl⟩
    rw [List.length_map] at hx
    obtain ⟨hi, rfl⟩ := rangeE hx
    refine ⟨_, gd_name, ?_⟩
    have hn : v[i]? = some v[i] := List.getElem?_eq_getElem hi
    generalize v[i] = n at hn
    have hfst := best_fst b v i
    have hlen : (best b (v.take i)).length = i := by
      have := congrArg List.length hfst
      rw [List.length_map, List.length_take] at this
      omega
    generalize hacc : best b (v.take i) = acc at *
    have hw : ∀ {j : Nat}, j < i → v[j]? = some (acc.getD j (0, 0)).1 := fun {j} hj => by
      have h1 : (acc.map (·.1))[j]? = some (acc.getD j (0, 0)).1 := by
        rw [List.getElem?_map, List.getD_eq_getElem?_getD, List.getElem?_eq_getElem (show j < acc.length by omega)]
        rfl
      rw [hfst, List.getElem?_take, if_pos hj] at h1
      exact h1
    have hb2 : ∀ {j : Nat}, j < i → (acc.map (·.2))[j]? = some (acc.getD j (0, 0)).2 := fun {j} hj => by
      rw [List.getElem?_map, List.getD_eq_getElem?_getD, List.getElem?_eq_getElem (show j < acc.length by omega)]
      rfl
    let pr : Nat × Nat → Bool := fun p => if b then decide (n < p.1) else decide (p.1 ≤ n)
    have hable : ((List.range i).filter fun j => pr (acc.getD j (0, 0))).map (fun j => dI (acc.getD j (0, 0)).2) = ((acc.filter pr).map (·.2)).map dI := by
      have := range_filter pr (fun p : Nat × Nat => dI p.2) (0, 0) acc
      rw [hlen] at this
      rw [this, List.map_map]
      rfl
    refine sv_setL (A := fun es => es = ((acc.filter pr).map (·.2)).map dI) ?_ fun es e => ?_
    · refine (el_fil (l := List.range i) (enc := dI) (b := fun j => pr (acc.getD j (0, 0))) (f := fun j => dI (acc.getD j (0, 0)).2) ?_ (fun j hj => ?_) (fun j hj _ => ?_) (by simp; omega)).to hable
      · have := wd_rng1 (W := W0) (Γ := ([.d (dR v), .d (.bl b), .l ((acc.map (·.2)).map dI), a, c, d] : List AV).set 3 (.d (dI i))) (j := (i : Int)) (ea_cons (ed_var (i := 3) rfl) an_nil) (by omega) (by omega)
        rw [Int.toNat_natCast, rangeD0] at this
        exact this
      · have hj' := List.mem_range.mp hj
        refine et_ifT (et_trD (x := .bl b) (ed_var rfl) nofun nofun) (fun e => ?_) fun e => ?_
        · have e' : b = true := e
          refine (et_test (ed_gt (ed_ixT (ed_var rfl) (ed_var rfl) (map_getE (f := dI) (hw hj'))) (ed_ixT (ed_var rfl) (ed_var rfl) (map_getE (f := dI) hn)))).to ?_
          simp [pr, e']
        · have e' : b = false := e
          refine (et_test (ed_le (ed_ixT (ed_var rfl) (ed_var rfl) (map_getE (f := dI) (hw hj'))) (ed_ixT (ed_var rfl) (ed_var rfl) (map_getE (f := dI) hn)))).to ?_
          simp [pr, e']
      · have hj' := List.mem_range.mp hj
        exact ed_ixL (er_var rfl) (ed_var rfl) (map_getE (hb2 hj'))
    · subst e
      have hfl : (acc.filter pr).length ≤ i := Nat.le_trans (List.length_filter_le _ _) (by omega)
      obtain ⟨m1, m2⟩ := max_of (l := (acc.filter pr).map (·.2))
      refine sv_app rfl (ed_addI ed_int (ed_max (ns := (((acc.filter pr).map (·.2)).map fun (n : Nat) => (n : Int)) ++ [0]) ((el_addL (er_var rfl) (el_lst (ea_cons ed_int an_nil) (by simp)).er (by simp only [List.length_map]; simp; omega)).to ?_).er m1 m2)) (by simp only [List.length_map]; omega) ?_
      · rw [map_ints, List.map_append]
        rfl
      · refine sv_next ⟨.d (dI i), .l (((acc.filter pr).map (·.2)).map dI), d, ?_⟩
        rw [take_succ_get hn, best_snoc, hacc, bestStep]
        simp [pr]
  · rintro Γ1 ⟨a, c, d, rfl⟩
    have hlen : (best b v).length = v.length := by
      have := congrArg List.length (best_fst b v v.length)
      rw [List.take_length, List.length_map] at this
      exact this
    rw [rangeD_len, Int.toNat_natCast, List.length_map, List.take_length]
    obtain ⟨m1, m2⟩ := max_of (l := (best b v).map (·.2))
    refine sv_ret (ed_max (ns := (((best b v).map (·.2)).map fun (n : Nat) => (n : Int)) ++ [0]) ((el_addL (er_var rfl) (el_lst (ea_cons ed_int an_nil) (by simp)).er (by simp only [List.length_map]; simp; omega)).to ?_).er m1 m2) rfl
    rw [map_ints, List.map_append]
    rfl
end
end Ta

set_option Elab.async false
set_option maxRecDepth 100000
set_option linter.unusedVariables false
set_option maxHeartbeats 4000000
namespace Ta
open PySem L2 Ly K51
/-! ### word_of: plain facts -/
theorem unbump_snoc : ∀ (A : List (List Nat)) (r : List Nat) (x : Nat), K51.unbump (A ++ [r]) x = match lastLt r x with
    | none => none
    | some j => (K51.unbump A (r.getD j 0)).map fun p => (p.1 ++ [r.set j x], p.2)
  | [], r, x => by
    simp only [List.nil_append, K51.unbump]
    cases lastLt r x <;> rfl
  | a :: A, r, x => by
    rw [List.cons_append, K51.unbump, unbump_snoc A r x]
    cases lastLt r x with
    | none => rfl
    | some j =>
      simp only [K51.unbump]
      cases K51.unbump A (r.getD j 0) with
      | none => rfl
      | some p =>
        obtain ⟨u, y⟩ := p
        simp only [Option.map_some]
        cases lastLt a y <;> rfl
theorem last_filter {p : Nat → Bool} {n j : Nat} (h : ((List.range n).filter p).getLast? = some j) : j < n ∧ p j = true ∧ j ∈ (List.range n).filter p ∧ ∀ y ∈ (List.range n).filter p, y ≤ j := by
  obtain ⟨ys, hy⟩ := List.getLast?_eq_some_iff.mp h
  have hm : j ∈ (List.range n).filter p := by rw [hy]; simp
  obtain ⟨h1, h2⟩ := List.mem_filter.mp hm
  refine ⟨List.mem_range.mp h1, h2, hm, fun y hyy => ?_⟩
  have pw : ((List.range n).filter p).Pairwise (· < ·) := List.Pairwise.filter _ List.pairwise_lt_range
  rw [hy] at pw hyy
  rw [List.pairwise_append] at pw
  rcases List.mem_append.mp hyy with h | h
  · exact Nat.le_of_lt (pw.2.2 y h j (by simp))
  · simp at h
    omega
theorem step_some {R T R' T' : List (List Nat)} {k y : Nat} (h : wordStep R T k = some (R', T', y)) : ∃ i x up, rowWith T k = some i ∧ (R.getD i []).getLast? = some x ∧ K51.unbump (R.take i) x = some (up, y) ∧ R' = up ++ ((R.getD i []).dropLast :: R.drop (i + 1)) ∧ T' = T.set i (T.getD i []).dropLast := by
  unfold wordStep at h
  split at h
  · cases h
  rename_i i hi
  split at h
  · cases h
  rename_i x hx
  split at h
  · cases h
  rename_i up y' hu
  cases h
  exact ⟨i, x, up, hi, hx, hu, rfl, rfl⟩
theorem back_some {R T : List (List Nat)} {k : Nat} {ys : List Nat} (h : wordBack (k + 1) R T = some ys) : ∃ R' T' y zs, wordStep R T k = some (R', T', y) ∧ wordBack k R' T' = some zs ∧ ys = y :: zs := by
  rw [wordBack] at h
  split at h
  · cases h
  rename_i R' T' y hs
  split at h
  · cases h
  rename_i zs hz
  cases h
  exact ⟨R', T', y, zs, hs, hz, rfl⟩
theorem getD_some {R : List (List Nat)} {i x : Nat} (h : (R.getD i []).getLast? = some x) : R[i]? = some (R.getD i []) := by
  rw [List.getD_eq_getElem?_getD] at h ⊢
  cases e : R[i]? with
  | none => rw [e] at h; cases h
  | some r => rfl
theorem row_with {T : List (List Nat)} {k i : Nat} (h : rowWith T k = some i) : ∃ js, ((List.range T.length).filter fun i => decide ((T.getD i []).getLast? = some k)) = i :: js := by
  unfold rowWith at h
  cases e : (List.range T.length).filter fun i => decide ((T.getD i []).getLast? = some k) with
  | nil => rw [e] at h; cases h
  | cons a js => rw [e] at h; cases h; exact ⟨js, rfl⟩
/-! ### the lists of rows in memory -/
abbrev en (r : List Nat) : List D := r.map dI
abbrev rfs (ps : List Addr) : List D := ps.map fun a => D.raw (.ref a)
def CC (p : Addr) (ps : List Addr) (R : List (List Nat)) (q : Addr) (qs : List Addr) (T : List (List Nat)) : LC :=
  (q, rfs qs) :: (qs.zip (T.map en) ++ (p, rfs ps) :: (ps.zip (R.map en) ++ []))
theorem cset_cons {C : LC} {a b : Addr} {ds es : List D} : cset ((b, ds) :: C) a es = (if b = a then (a, es) else (b, ds)) :: cset C a es := rfl
theorem cset_app {C C' : LC} {a : Addr} {es : List D} : cset (C ++ C') a es = cset C a es ++ cset C' a es := List.map_append
theorem cset_out {a : Addr} {es : List D} : ∀ {C : LC}, (∀ p ∈ C, p.1 ≠ a) → cset C a es = C
  | [], _ => rfl
  | (b, ds) :: C, h => by
    rw [cset_cons, if_neg (h (b, ds) (by simp)), cset_out fun p hp => h p (by simp [hp])]
theorem cset_zip {a : Addr} {r : List Nat} : ∀ {ps : List Addr} {R : List (List Nat)} {i : Nat}, ps.Nodup → ps[i]? = some a → ps.length = R.length → cset (ps.zip (R.map en)) a (en r) = ps.zip ((R.set i r).map en)
  | [], R, i, _, h, _ => by simp at h
  | p :: ps, [], i, _, _, hl => by simp at hl
  | p :: ps, x :: R, 0, nd, h, hl => by
    simp at h
    subst h
    rw [List.map_cons, List.zip_cons_cons, cset_cons, if_pos rfl, List.set_cons_zero, List.map_cons, List.zip_cons_cons, cset_out]
    intro z hz
    have := (List.of_mem_zip (a := z.1) (b := z.2) hz).1
    intro e
    rw [e] at this
    exact (List.nodup_cons.mp nd).1 this
  | p :: ps, x :: R, i + 1, nd, h, hl => by
    have h' : ps[i]? = some a := by simpa using h
    have hne : p ≠ a := fun e => by
      subst e
      exact (List.nodup_cons.mp nd).1 (List.mem_of_getElem? h')
    rw [List.map_cons, List.zip_cons_cons, cset_cons, if_neg hne, cset_zip (List.nodup_cons.mp nd).2 h' (by simpa using hl), List.set_cons_succ, List.map_cons, List.zip_cons_cons]
structure Adr (p : Addr) (ps : List Addr) (q : Addr) (qs : List Addr) : Prop where
  np : (p :: ps).Nodup
  nq : (q :: qs).Nodup
  dj : ∀ a ∈ q :: qs, a ∉ p :: ps
theorem cc_setR {p q a : Addr} {ps qs : List Addr} {R T : List (List Nat)} {i : Nat} {r : List Nat} (ad : Adr p ps q qs) (h : ps[i]? = some a) (hl : ps.length = R.length) : cset (CC p ps R q qs T) a (en r) = CC p ps (R.set i r) q qs T := by
  have ha : a ∈ ps := List.mem_of_getElem? h
  have h1 : q ≠ a := fun e => ad.dj q (by simp) (by rw [e]; simp [ha])
  have h2 : ∀ z ∈ qs.zip (T.map en), z.1 ≠ a := fun z hz e => ad.dj z.1 (by simp [(List.of_mem_zip (a := z.1) (b := z.2) hz).1]) (by rw [e]; simp [ha])
  have h3 : p ≠ a := fun e => (List.nodup_cons.mp ad.np).1 (e ▸ ha)
  unfold CC
  rw [cset_cons, if_neg h1, cset_app, cset_out h2, cset_cons, if_neg h3, List.append_nil, List.append_nil, cset_zip (List.nodup_cons.mp ad.np).2 h hl]
theorem cc_setT {p q a : Addr} {ps qs : List Addr} {R T : List (List Nat)} {i : Nat} {r : List Nat} (ad : Adr p ps q qs) (h : qs[i]? = some a) (hl : qs.length = T.length) : cset (CC p ps R q qs T) a (en r) = CC p ps R q qs (T.set i r) := by
  have ha : a ∈ qs := List.mem_of_getElem? h
  have h1 : q ≠ a := fun e => (List.nodup_cons.mp ad.nq).1 (e ▸ ha)
  have h3 : ∀ z ∈ (p, rfs ps) :: ps.zip (R.map en), z.1 ≠ a := fun z hz e => ad.dj a (by simp [ha]) (by
    rcases List.mem_cons.mp hz with rfl | hz
    · rw [← e]; simp
    · rw [← e]; simp [(List.of_mem_zip (a := z.1) (b := z.2) hz).1])
  unfold CC
  rw [cset_cons, if_neg h1, cset_app, List.append_nil, cset_out h3, cset_zip (List.nodup_cons.mp ad.nq).2 h hl]
theorem cc_p {p q : Addr} {ps qs : List Addr} {R T : List (List Nat)} : (p, rfs ps) ∈ CC p ps R q qs T := by simp [CC]
theorem cc_q {p q : Addr} {ps qs : List Addr} {R T : List (List Nat)} : (q, rfs qs) ∈ CC p ps R q qs T := by simp [CC]
theorem cc_ps {p q a : Addr} {ps qs : List Addr} {R T : List (List Nat)} {i : Nat} {r : List Nat} (h : ps[i]? = some a) (hr : R[i]? = some r) : (a, en r) ∈ CC p ps R q qs T := by
  have : (a, en r) ∈ ps.zip (R.map en) := List.mem_of_getElem? (i := i) (by rw [List.getElem?_zip_eq_some]; exact ⟨h, by rw [List.getElem?_map, hr]; rfl⟩)
  unfold CC
  simp [this]
theorem cc_qs {p q a : Addr} {ps qs : List Addr} {R T : List (List Nat)} {i : Nat} {r : List Nat} (h : qs[i]? = some a) (hr : T[i]? = some r) : (a, en r) ∈ CC p ps R q qs T := by
  have : (a, en r) ∈ qs.zip (T.map en) := List.mem_of_getElem? (i := i) (by rw [List.getElem?_zip_eq_some]; exact ⟨h, by rw [List.getElem?_map, hr]; rfl⟩)
  unfold CC
  simp [this]
theorem cc_M {p q c : Addr} {ps qs : List Addr} {R T : List (List Nat)} {ds : List D} (h : (c, ds) ∈ CC p ps R q qs T) : c ∈ q :: qs ∨ c ∈ p :: ps := by
  unfold CC at h
  rcases List.mem_cons.mp h with h | h
  · cases h; exact .inl (by simp)
  · rcases List.mem_append.mp h with h | h
    · exact .inl (List.mem_cons_of_mem _ (List.of_mem_zip h).1)
    · rcases List.mem_cons.mp h with h | h
      · cases h; exact .inr (by simp)
      · rw [List.append_nil] at h
        exact .inr (List.mem_cons_of_mem _ (List.of_mem_zip h).1)
end Ta

set_option Elab.async false
set_option maxRecDepth 100000
set_option linter.unusedVariables false
set_option maxHeartbeats 4000000
namespace Ta
open PySem L2 Ly K51
section
variable {P : Program} {w : World} {K : PySem.W.Frag} {mg : Str → Option Value} {base : Heap}
def RWord : List D → D → Prop := fun ds y => ∃ (R T : List (List Nat)) (v : List Nat), ds = [dT R, dT T] ∧ R.length ≤ 100 ∧ T.length = R.length ∧ (∀ r ∈ R, r.length ≤ 100) ∧ (∀ r ∈ T, r.length ≤ 100) ∧ (shape R).sum ≤ 100 ∧ wordOf R T = some v ∧ y = dR v
theorem take_getD {R : List (List Nat)} {i j : Nat} (h : i = j + 1) (hj : j < R.length) : R.take i = R.take j ++ [R.getD j []] := by
  subst h
  rw [List.take_add_one, List.getElem?_eq_getElem hj, List.getD_eq_getElem?_getD, List.getElem?_eq_getElem hj]
  rfl
theorem scword_of : FnScope ["tableau", "order", "rows", "row", "times", "found", "k", "i", "place", "number", "above", "j"] ["tableau", "order"] (defScope sword_of) := ⟨rfl, rfl, rfl, by decide +kernel, rfl, by decide +kernel, by decide +kernel⟩
theorem ok_word {f : Addr} {fd : FuncData} (F : Fun K "word_of" "word_of" sword_of f fd) (T : Txt mg) (hshape_of : Df P w K mg base 1 "shape_of" ["tableau"] (spG RShape)) : FnOk P w K mg base CX0 2 f fd ["tableau", "order"] (spG RWord) := by
  refine F.ok scword_of (fun vs H Q E h => ?_) (fun cdv A outer s H vs Q E hr h => ?_)
  · obtain ⟨ds, y, r, ⟨R, T, v, rfl, _⟩, _⟩ := h
    rw [r.length]
    rfl
  obtain ⟨ds, y, r, ⟨R0, T0, v, rfl, hR1, hTR, hR2, hT2, hsum, hv, rfl⟩, q⟩ := h
  refine ⟨_, (pss_cons (ps_set (i := 2) scword_of.nd rfl (by first | exact Or.inl rfl | exact Or.inr rfl) (pe_lc (own := [("row", 3)]) (g := (gName 3)) (tt := tYes) (te := (tCB (rListS K) (tCons (tVar 3) tNil))) rfl scword_of.nd (pi_tup (pv 0)) (blkOk_by (by kernel_rfl)) (fun _ _ _ _ _ => (pg_name (i := 3) scword_of.nd rfl (by first | exact Or.inl rfl | exact Or.inr rfl))) (fun _ _ _ _ _ => pts_nil) (fun _ _ _ _ _ => (pe_callTy call_listS (by rfl) T.b_list bt_list (pa_cons (pv 3) pa_nil)))))
    (pss_cons (ps_set (i := 4) scword_of.nd rfl (by first | exact Or.inl rfl | exact Or.inr rfl) (pe_lc (own := [("row", 3)]) (g := (gName 3)) (tt := tYes) (te := (tCB (rListS K) (tCons (tVar 3) tNil))) rfl scword_of.nd (pi_tup (pv 1)) (blkOk_by (by kernel_rfl)) (fun _ _ _ _ _ => (pg_name (i := 3) scword_of.nd rfl (by first | exact Or.inl rfl | exact Or.inr rfl))) (fun _ _ _ _ _ => pts_nil) (fun _ _ _ _ _ => (pe_callTy call_listS (by rfl) T.b_list bt_list (pa_cons (pv 3) pa_nil)))))
    (pss_cons (ps_set (i := 5) scword_of.nd rfl (by first | exact Or.inl rfl | exact Or.inr rfl) (pe_lst pa_nil))
    (pss_cons (ps_for PassesOwn.never rfl (pi_range3 (by rfl) T.b_range (pa_cons (pe_op op_sub (pe_callB (call_sumU rfl) (by rfl) T.b_sum bt_sum (pa_cons (pe_df hshape_of (hr.mono (by omega)) (by rfl) (pa_cons (pv 0) pa_nil)) pa_nil)) pe_int) (pa_cons (pe_un un_neg pe_int) (pa_cons (pe_un un_neg pe_int) pa_nil)))) (pg_name (i := 6) scword_of.nd rfl (by first | exact Or.inl rfl | exact Or.inr rfl))
      (pss_cons (ps_set (i := 7) scword_of.nd rfl (by first | exact Or.inl rfl | exact Or.inr rfl) (pe_ix ix_seq (pe_lc (own := [("place", 8)]) (g := (gName 8)) (tt := (tAnd (tTr K (tOp (rIx K) (tVar 4) (tVar 8))) (tTest (tOp (rEqU K) (tOp (rIx K) (tOp (rIx K) (tVar 4) (tVar 8)) (tUn (rU fun i => .int (-i)) (tC (.int 1)))) (tVar 6))))) (te := (tVar 8)) rfl scword_of.nd (pi_range1 (by rfl) T.b_range (pa_cons (pe_callB call_lenS (by rfl) T.b_len bt_len (pa_cons (pv 4) pa_nil)) pa_nil)) (blkOk_by (by kernel_rfl)) (fun _ _ _ _ _ => (pg_name (i := 8) scword_of.nd rfl (by first | exact Or.inl rfl | exact Or.inr rfl))) (fun _ _ _ _ _ => (pts_one (PW.pt (pw_and (pt_tr (pe_ix ix_seq (pv 4) (pv 8) (fun _ _ => rfl))) (pw_and1 (pt_cmpR (op_eqU (hr.units)) (pe_ix ix_seq (pe_ix ix_seq (pv 4) (pv 8) (fun _ _ => rfl)) (pe_un un_neg pe_int) (fun _ _ => rfl)) (pv 6) (nomark _))))))) (fun _ _ _ _ _ => (pv 8))) pe_int (fun _ _ => rfl)))
    (pss_cons (ps_expr (pe_bm0 PySem.F.plainAttrs_list PySem.F.slot_list_pop PySem.F.type_list_pop mt_pop (pe_ix ix_seq (pv 4) (pv 7) (fun _ _ => rfl))))
    (pss_cons (ps_set (i := 9) scword_of.nd rfl (by first | exact Or.inl rfl | exact Or.inr rfl) (pe_bm0 PySem.F.plainAttrs_list PySem.F.slot_list_pop PySem.F.type_list_pop mt_pop (pe_ix ix_seq (pv 2) (pv 7) (fun _ _ => rfl))))
    (pss_cons (ps_for PassesOwn.never rfl (pi_range3 (by rfl) T.b_range (pa_cons (pe_op op_sub (pv 7) pe_int) (pa_cons (pe_un un_neg pe_int) (pa_cons (pe_un un_neg pe_int) pa_nil)))) (pg_name (i := 10) scword_of.nd rfl (by first | exact Or.inl rfl | exact Or.inr rfl))
      (pss_cons (ps_set (i := 8) scword_of.nd rfl (by first | exact Or.inl rfl | exact Or.inr rfl) (pe_callB (cr_max rfl) (by rfl) T.b_max bt_max (pa_cons (pe_lc (own := [("j", 11)]) (g := (gName 11)) (tt := (tTest (tOp rLtI (tOp (rIx K) (tOp (rIx K) (tVar 2) (tVar 10)) (tVar 11)) (tVar 9)))) (te := (tVar 11)) rfl scword_of.nd (pi_range1 (by rfl) T.b_range (pa_cons (pe_callB call_lenS (by rfl) T.b_len bt_len (pa_cons (pe_ix ix_seq (pv 2) (pv 10) (fun _ _ => rfl)) pa_nil)) pa_nil)) (blkOk_by (by kernel_rfl)) (fun _ _ _ _ _ => (pg_name (i := 11) scword_of.nd rfl (by first | exact Or.inl rfl | exact Or.inr rfl))) (fun _ _ _ _ _ => (pts_one (pt_cmpR op_lt (pe_ix ix_seq (pe_ix ix_seq (pv 2) (pv 10) (fun _ _ => rfl)) (pv 11) (fun _ _ => rfl)) (pv 9) (nomark _)))) (fun _ _ _ _ _ => (pv 11))) pa_nil)))
    (pss_one (ps_asg (pe_tup (pa_cons (pv 9) (pa_cons (pe_ix ix_seq (pe_ix ix_seq (pv 2) (pv 10) (fun _ _ => rfl)) (pv 8) (fun _ _ => rfl)) pa_nil))) (pg_tup rfl (pgs_cons (pg_sub (pe_ix ix_seq (pv 2) (pv 10) (fun _ _ => rfl)) (pv 8) set_list) (pgs_cons (pg_name (i := 9) scword_of.nd rfl (by first | exact Or.inl rfl | exact Or.inr rfl)) pgs_nil)))))))
    (pss_one (ps_expr (pe_bm PySem.F.plainAttrs_list PySem.F.slot_list_append PySem.F.type_list_append mt_append (pv 5) (pa_cons (pv 9) pa_nil)))))))))
    (pss_one (ps_ret (pe_tupRev rfl (by rfl) T.b_tuple (by rfl) T.b_reversed (pv 5)))))))), ?_⟩
  have s0 : Sl (Wq []) H [.d (dT R0), .d (dT T0), .no, .no, .no, .no, .no, .no, .no, .no, .no, .no] (L2.start ["tableau", "order", "rows", "row", "times", "found", "k", "i", "place", "number", "above", "j"] vs) H := by
    have := sl_start (N := ["tableau", "order", "rows", "row", "times", "found", "k", "i", "place", "number", "above", "j"]) (Wq []) (fun a ds m => by cases m) r
    exact this
  generalize L2.start ["tableau", "order", "rows", "row", "times", "found", "k", "i", "place", "number", "above", "j"] vs = σ0 at s0 ⊢
  have enc : ∀ R : List (List Nat), dT R = .tup ((R.map en).map D.tup) := fun R => by
    show D.tup _ = D.tup _
    rw [List.map_map]
    rfl
  -- rows, times
  refine run_ll (rows := R0.map en) s0 ((ed_var rfl).to (enc R0)) (by rw [List.length_map]; omega) (by simp) fun p ps σ1 H1 hps np fp s1 => ?_
  rw [List.length_map] at hps
  refine run_ll (rows := T0.map en) s1 ((ed_var rfl).to (enc T0)) (by rw [List.length_map]; omega) (by simp) fun q' qs σ2 H2 hqs nq fq s2 => ?_
  have dj := fun a ha => (fq a ha).2
  rw [List.length_map] at hqs
  have ad : Adr p ps q' qs := ⟨np, nq, fun a ha hb => by
    rcases List.mem_cons.mp hb with rfl | hb
    · exact dj a ha _ (List.mem_cons_self)
    · obtain ⟨j, hj⟩ := List.getElem?_of_mem hb
      have hjl := lt_of_get hj
      refine dj a ha (en R0[j]) (List.mem_cons_of_mem _ (List.mem_append_left _ (List.mem_of_getElem? (i := j) ?_)))
      rw [List.getElem?_zip_eq_some]
      exact ⟨hj, by rw [List.getElem?_map, List.getElem?_eq_getElem (by omega)]; rfl⟩⟩
  have s3 : Sl (Wq (CC p ps R0 q' qs T0)) H [.d (dT R0), .d (dT T0), .d (.raw (.ref p)), .no, .d (.raw (.ref q')), .no, .no, .no, .no, .no, .no, .no] σ2 H2 := s2
  -- found = []
  refine Ly.run (Γ' := [.d (dT R0), .d (dT T0), .d (.raw (.ref p)), .no, .d (.raw (.ref q')), .l [], .no, .no, .no, .no, .no, .no]) s3 (sv_end (sv_setL (el_lst an_nil (by show 0 ≤ 100000; omega)) fun ds e => sv_next (by subst e; rfl))) fun σ3 H3 s4 => ?_
  obtain ⟨ys, hys, rfl⟩ : ∃ ys, wordBack (shape R0).sum R0 T0 = some ys ∧ ys.reverse = v := by
    unfold wordOf at hv
    obtain ⟨ys, h1, h2⟩ := Option.map_eq_some_iff.mp hv
    exact ⟨ys, h1, h2⟩
  generalize hn : (shape R0).sum = n at hys hsum
  have hsh : ED (Wq (CC p ps R0 q' qs T0)) (tCB (rSumU K) (tCons (tCall (spG RShape) [] E0 (tCons (tVar 0) tNil)) tNil)) [.d (dT R0), .d (dT T0), .d (.raw (.ref p)), .no, .d (.raw (.ref q')), .l [], .no, .no, .no, .no, .no, .no] (.int (n : Int)) := by
    refine (ed_sumT (ns := (shape R0).map fun (n : Nat) => (n : Int)) ((ed_G (ea_cons (ed_var rfl) an_nil) ⟨R0, rfl, by omega, rfl⟩).to (congrArg D.tup (map_ints _)))).to ?_
    rw [sum_cast, hn]
  -- for k in range(n - 1, -1, -1)
  let Pv : Nat → L2.St → Hp → Prop := fun t σ H' => ∃ (R T : List (List Nat)) (fs rest : List Nat) (a b c d e f g : AV), wordBack (n - t) R T = some rest ∧ ys = fs ++ rest ∧ fs.length = t ∧ R.length = R0.length ∧ T.length = R0.length ∧ (∀ r ∈ R, r.length ≤ 100) ∧ (∀ r ∈ T, r.length ≤ 100) ∧
    Sl (Wq (CC p ps R q' qs T)) H [.d (dT R0), .d (dT T0), .d (.raw (.ref p)), a, .d (.raw (.ref q')), .l (fs.map dI), b, c, d, e, f, g] σ H'
  refine run_down (i := (n : Int) - 1) (j := -1) s4 (ea_cons (ed_sub hsh ed_int) (ea_cons (ed_un ed_int ru_neg) (ea_cons (ed_un ed_int ru_neg) an_nil))) (by omega) (by omega) (by omega) (by omega) Pv
    (fun H' s' => ⟨R0, T0, [], ys, _, _, _, _, _, _, _, hys, rfl, rfl, rfl, hTR, hR2, hT2, s'⟩) ?_ ?_
  · rintro t σ H' ht ⟨R, T, fs, rest, a, b, c, d, e, f, g, hb, hy, hfs, hRl, hTl, hRr, hTr, s5⟩
    have htn : t < n := by omega
    obtain ⟨k, hk⟩ : ∃ k, n - t = k + 1 := ⟨n - t - 1, by omega⟩
    rw [hk] at hb
    obtain ⟨R', T', y, zs, hstep, hback, rfl⟩ := back_some hb
    obtain ⟨i, x, up, hi, hx, hu, hR', hT'⟩ := step_some hstep
    obtain ⟨js, hjs⟩ := row_with hi
    have hke : (n : Int) - 1 + (t : Int) * (-1) = (k : Int) := by omega
    rw [hke]
    have hiT : i < T.length ∧ (T.getD i []).getLast? = some k := by
      have : i ∈ (List.range T.length).filter fun i => decide ((T.getD i []).getLast? = some k) := by rw [hjs]; simp
      obtain ⟨h1, h2⟩ := List.mem_filter.mp this
      exact ⟨List.mem_range.mp h1, of_decide_eq_true h2⟩
    have hTi : T[i]? = some (T.getD i []) := getD_some hiT.2
    have hRi : R[i]? = some (R.getD i []) := getD_some hx
    have hqsl : qs.length = T.length := by omega
    have hpsl : ps.length = R.length := by omega
    have hqi : ∀ {j : Nat}, j < T.length → ∃ a, qs[j]? = some a ∧ L2.atI (rfs qs) (j : Int) = some (.raw (.ref a)) := fun {j} h => ⟨qs[j], List.getElem?_eq_getElem (by omega), atI_nat (by rw [List.getElem?_map, List.getElem?_eq_getElem (by omega)]; rfl)⟩
    have hpi : ∀ {j : Nat}, j < R.length → ∃ a, ps[j]? = some a ∧ L2.atI (rfs ps) (j : Int) = some (.raw (.ref a)) := fun {j} h => ⟨ps[j], List.getElem?_eq_getElem (by omega), atI_nat (by rw [List.getElem?_map, List.getElem?_eq_getElem (by omega)]; rfl)⟩
    have s6 := s5.setd (.int (k : Int)) 6
    -- i = [..][0]
    refine Ly.run (Γ' := [.d (dT R0), .d (dT T0), .d (.raw (.ref p)), a, .d (.raw (.ref q')), .l (fs.map dI), .d (dI k), .d (dI i), d, e, f, g]) s6 (sv_end (sv_set (x := dI i) (ed_ixL (ds := dI i :: js.map dI) (el_fil (l := List.range T.length) (enc := dI) (b := fun j => decide ((T.getD j []).getLast? = some k)) (f := dI) ?_ (fun j hj => ?_) (fun j hj _ => ed_var rfl) (by simp; omega) |>.to (by rw [hjs]; rfl)).er ed_int at0) (sv_next rfl))) fun σ7 H7 s7 => ?_
    · have := wd_rng1 (W := Wq (CC p ps R q' qs T)) (Γ := [.d (dT R0), .d (dT T0), .d (.raw (.ref p)), a, .d (.raw (.ref q')), .l (fs.map dI), .d (dI k), c, d, e, f, g]) (ea_cons (ed_lenQ (K := K) (ed_var (i := 4) rfl) cc_q) an_nil) (by omega) (by simp; omega)
      rw [Int.toNat_natCast, rangeD0, List.length_map, hqsl] at this
      exact this
    · have hj' := List.mem_range.mp hj
      obtain ⟨aj, ha1, ha2⟩ := hqi hj'
      have hTj : T[j]? = some (T.getD j []) := by rw [List.getD_eq_getElem?_getD, List.getElem?_eq_getElem hj']; rfl
      have hcell : ED (Wq (CC p ps R q' qs T)) (tOp (rIx K) (tVar 4) (tVar 8)) [.d (dT R0), .d (dT T0), .d (.raw (.ref p)), a, .d (.raw (.ref q')), .l (fs.map dI), .d (dI k), c, .d (dI j), e, f, g] (.raw (.ref aj)) := ed_ixQ (ed_var rfl) cc_q (ed_var rfl) ha2
      cases hl : (T.getD j []).getLast? with
      | none =>
        have he : T.getD j [] = [] := List.getLast?_eq_none_iff.mp hl
        refine (et_and (a := false) (b := false) ((et_trQ hcell (cc_qs ha1 hTj)).to (by rw [he]; rfl)) (fun h => by cases h)).to (by simp)
      | some z =>
        have hne : T.getD j [] ≠ [] := fun h => by rw [h] at hl; cases hl
        refine (et_and (a := true) (b := decide ((z : Int) = (k : Int))) ((et_trQ hcell (cc_qs ha1 hTj)).to (by cases q : T.getD j [] with | nil => exact absurd q hne | cons _ _ => rfl)) (fun _ => et_test (ed_eqI (ed_ixQ hcell (cc_qs ha1 hTj) (ed_un ed_int ru_neg) (last_at (by rw [List.getLast?_map, hl]; rfl))) (ed_var rfl)))).to ?_
        simp only [Bool.true_and, Option.some.injEq]
        exact decide_eq_decide.mpr Int.ofNat_inj
    -- times[i].pop()
    obtain ⟨qi, hq1, hq2⟩ := hqi hiT.1
    refine run_pop s7 (ed_ixQ (ed_var rfl) cc_q (ed_var rfl) hq2) (cc_qs hq1 hTi) (x := dI k) (by rw [List.getLast?_map, hiT.2]; rfl) fun H8 s8 => ?_
    rw [show (en (T.getD i [])).dropLast = en (T.getD i []).dropLast from List.map_dropLast.symm, cc_setT ad hq1 hqsl, ← hT'] at s8
    -- number = rows[i].pop()
    obtain ⟨pi, hp1, hp2⟩ := hpi (lt_of_get hRi)
    refine run_popS s8 (ed_ixQ (ed_var rfl) cc_p (ed_var rfl) hp2) (cc_ps hp1 hRi) (x := dI x) (by rw [List.getLast?_map, hx]; rfl) fun σ9 H9 s9 => ?_
    rw [show (en (R.getD i [])).dropLast = en (R.getD i []).dropLast from List.map_dropLast.symm, cc_setR ad hp1 hpsl] at s9
    have hiR : i < R.length := lt_of_get hRi
    generalize hR1' : R.set i (R.getD i []).dropLast = R1 at s9
    have hR1l : R1.length = R.length := by rw [← hR1']; simp
    have hT'l : T'.length = T.length := by rw [hT']; simp
    -- for above in range(i - 1, -1, -1)
    let Pw : Nat → L2.St → Hp → Prop := fun m σ H' => ∃ (num : Nat) (ud : List (List Nat)) (d' f' g' : AV), ud.length = m ∧ (K51.unbump (R.take (i - m)) num).map (fun p => (p.1 ++ ud, p.2)) = some (up, y) ∧ (∀ r ∈ ud, r.length ≤ 100) ∧
      Sl (Wq (CC p ps (R.take (i - m) ++ ud ++ R1.drop i) q' qs T')) H [.d (dT R0), .d (dT T0), .d (.raw (.ref p)), a, .d (.raw (.ref q')), .l (fs.map dI), .d (dI k), .d (dI i), d', .d (dI num), f', g'] σ H'
    refine run_down (i := (i : Int) - 1) (j := -1) s9 (ea_cons (ed_sub (ed_var rfl) ed_int) (ea_cons (ed_un ed_int ru_neg) (ea_cons (ed_un ed_int ru_neg) an_nil))) (by omega) (by omega) (by omega) (by omega) Pw (fun H' s' => ⟨x, [], d, f, g, rfl, ?_, by simp, ?_⟩) ?_ ?_
    · rw [Nat.sub_zero, hu]
      simp
    · have : R.take (i - 0) ++ [] ++ R1.drop i = R1 := by
        rw [Nat.sub_zero, List.append_nil, ← hR1']
        conv => rhs; rw [← List.take_append_drop i (R.set i (R.getD i []).dropLast)]
        rw [List.take_set_of_le (Nat.le_refl i)]
      rw [this]
      exact s'
    · rintro m σ' H' hm ⟨num, ud, d', f', g', hud, hub, hur, s10⟩
      have hmi : m < i := by omega
      obtain ⟨l, hl⟩ : ∃ l, i - m = l + 1 := ⟨i - m - 1, by omega⟩
      have hle : (i : Int) - 1 + (m : Int) * (-1) = (l : Int) := by omega
      rw [hle]
      rw [hl, take_getD rfl (show l < R.length by omega), unbump_snoc] at hub
      rw [hl, take_getD rfl (show l < R.length by omega)] at s10
      generalize hr0 : R.getD l [] = r0 at hub s10
      have hr0l : r0.length ≤ 100 := by
        rw [← hr0, List.getD_eq_getElem?_getD, List.getElem?_eq_getElem (show l < R.length by omega)]
        exact hRr _ (List.getElem_mem _)
      cases hlast : lastLt r0 num with
      | none => rw [hlast] at hub; cases hub
      | some pl =>
      rw [hlast] at hub
      obtain ⟨g1, g2, g3, g4⟩ := last_filter hlast
      have hnum : r0[pl]? = some (r0.getD pl 0) := by rw [List.getD_eq_getElem?_getD, List.getElem?_eq_getElem g1]; rfl
      have hRc : (R.take l ++ [r0] ++ ud ++ R1.drop i).length = R.length := by simp; omega
      have hcur : (R.take l ++ [r0] ++ ud ++ R1.drop i)[l]? = some r0 := by
        rw [List.append_assoc, List.append_assoc, List.getElem?_append_right (by simp; omega)]
        simp
        rw [Nat.min_eq_left (by omega)]
        simp
      obtain ⟨pa, hpa1, hpa2⟩ : ∃ a, ps[l]? = some a ∧ L2.atI (rfs ps) (l : Int) = some (.raw (.ref a)) := hpi (by omega)
      have s11 := s10.setd (.int (l : Int)) 10
      have hrow : ∀ {Γ : List AV}, Γ[2]? = some (.d (.raw (.ref p))) → Γ[10]? = some (.d (dI l)) → ED (Wq (CC p ps (R.take l ++ [r0] ++ ud ++ R1.drop i) q' qs T')) (tOp (rIx K) (tVar 2) (tVar 10)) Γ (.raw (.ref pa)) := fun h1 h2 => ed_ixQ (ed_var h1) cc_p (ed_var h2) hpa2
      -- place = max([..])
      refine Ly.run (Γ' := [.d (dT R0), .d (dT T0), .d (.raw (.ref p)), a, .d (.raw (.ref q')), .l (fs.map dI), .d (dI k), .d (dI i), .d (dI pl), .d (dI num), .d (dI l), g']) s11 (sv_end (sv_set (x := dI pl) (ed_max (m := (pl : Int)) (ns := ((List.range r0.length).filter fun j => decide (r0.getD j 0 < num)).map fun (n : Nat) => (n : Int)) ((el_fil (l := List.range r0.length) (enc := dI) (b := fun j => decide (r0.getD j 0 < num)) (f := dI) ?_ (fun j hj => ?_) (fun j hj _ => ed_var rfl) (by simp; omega)).to (map_ints _)).er (List.mem_map.mpr ⟨pl, g3, rfl⟩) (fun z hz => by
          obtain ⟨w', hw, rfl⟩ := List.mem_map.mp hz
          exact Int.ofNat_le.mpr (g4 w' hw))) (sv_next rfl))) fun σ12 H12 s12 => ?_
      · have := wd_rng1 (W := Wq (CC p ps (R.take l ++ [r0] ++ ud ++ R1.drop i) q' qs T')) (Γ := [.d (dT R0), .d (dT T0), .d (.raw (.ref p)), a, .d (.raw (.ref q')), .l (fs.map dI), .d (dI k), .d (dI i), d', .d (dI num), .d (dI l), g']) (ea_cons (ed_lenQ (K := K) (hrow rfl rfl) (cc_ps hpa1 hcur)) an_nil) (by omega) (by simp; omega)
        rw [Int.toNat_natCast, rangeD0, List.length_map] at this
        exact this
      · have hj' := List.mem_range.mp hj
        refine (et_test (ed_lt (i := ((r0.getD j 0 : Nat) : Int)) (ed_ixQ (hrow rfl rfl) (cc_ps hpa1 hcur) (ed_var rfl) (map_getE (f := dI) (by rw [List.getD_eq_getElem?_getD, List.getElem?_eq_getElem hj']; rfl))) (ed_var rfl))).to ?_
        simp
      -- the two exchanged
      refine seq_end (run_swap (j := pl) s12 (x := dI num) rfl (ed_ixQ (hrow rfl rfl) (cc_ps hpa1 hcur) (ed_var rfl) (map_getE (f := dI) hnum)) (hrow rfl rfl) (cc_ps hpa1 hcur) (ed_var rfl) (by simpa using g1) fun σ13 H13 s13 => ?_)
      rw [show (en r0).set pl (dI num) = en (r0.set pl num) from List.map_set.symm, cc_setR ad hpa1 (by omega)] at s13
      have hset : (R.take l ++ [r0] ++ ud ++ R1.drop i).set l (r0.set pl num) = R.take (i - (m + 1)) ++ (r0.set pl num :: ud) ++ R1.drop i := by
        rw [List.append_assoc, List.append_assoc, List.set_append_right _ _ (by simp; omega)]
        have : l - (R.take l).length = 0 := by simp; omega
        rw [this, show i - (m + 1) = l by omega]
        simp
      rw [hset] at s13
      refine ⟨r0.getD pl 0, r0.set pl num :: ud, _, _, _, by simp [hud], ?_, ?_, s13⟩
      · rw [show i - (m + 1) = l by omega]
        rw [Option.map_map] at hub
        rw [← hub]
        congr 1
        funext z
        simp
      · intro r hr'
        rcases List.mem_cons.mp hr' with rfl | hr'
        · simpa using hr0l
        · exact hur r hr'
    · rintro σ' H' ⟨num, ud, d', f', g', hud, hub, hur, s10⟩
      have hmi : ((i : Int) - 1 - (-1)).toNat = i := by omega
      rw [hmi, Nat.sub_self, List.take_zero, List.nil_append] at s10
      rw [hmi] at hud
      rw [hmi, Nat.sub_self, List.take_zero] at hub
      simp only [K51.unbump, Option.map_some, List.nil_append, Option.some.injEq, Prod.mk.injEq] at hub
      obtain ⟨rfl, rfl⟩ := hub
      -- found.append(number)
      have hR1d : R1.drop i = (R.getD i []).dropLast :: R.drop (i + 1) := by
        rw [← hR1', List.drop_eq_getElem_cons (by simp; omega), List.getElem_set_self, List.drop_set_of_lt (by omega)]
      rw [hR1d, ← hR'] at s10
      refine seq_end (Ly.run (Γ' := [.d (dT R0), .d (dT T0), .d (.raw (.ref p)), a, .d (.raw (.ref q')), .l ((fs ++ [num]).map dI), .d (dI k), .d (dI i), d', .d (dI num), f', g']) s10 (sv_end (sv_app rfl (ed_var rfl) (by simp; omega) (sv_next (by rw [List.map_append]; rfl)))) fun σ11 H11 s11 => ?_)
      refine ⟨R', T', fs ++ [num], zs, _, _, _, _, _, _, _, by rw [show n - (t + 1) = k by omega]; exact hback, by rw [hy]; simp, by simp [hfs], ?_, by omega, ?_, ?_, s11⟩
      · rw [hR']; simp; omega
      · intro r hr'
        rw [hR'] at hr'
        rcases List.mem_append.mp hr' with h | h
        · exact hur r h
        · rcases List.mem_cons.mp h with rfl | h
          · rw [List.length_dropLast]
            have := hRr _ (List.mem_of_getElem? hRi)
            omega
          · exact hRr r (List.mem_of_mem_drop h)
      · intro r hr'
        rw [hT'] at hr'
        rcases List.mem_or_eq_of_mem_set hr' with h | h
        · exact hTr r h
        · rw [h, List.length_dropLast]
          have := hTr _ (List.mem_of_getElem? hTi)
          omega
  · rintro σ H' ⟨R, T, fs, rest, a, b, c, d, e, f, g, hb, hy, hfs, hRl, hTl, hRr, hTr, s5⟩
    rw [show ((n : Int) - 1 - (-1)).toNat = n by omega, Nat.sub_self] at hb
    simp only [wordBack, Option.some.injEq] at hb
    subst hb
    rw [List.append_nil] at hy
    subst hy
    -- return tuple(reversed(found))
    obtain ⟨pf, xs, e1, e2, e3, e4, e5⟩ := s5.li 5 (ys.map dI) rfl
    refine ⟨_, e1, pf, xs, rfl, .of e2, fun q2 hq2 => ?_⟩
    refine q _ _ (fun c o hc => ?_) (.tup upd_same (RpL.mono (fun c zs hc => ?_) _ _ (by rw [show (ys.reverse).map dI = (ys.map dI).reverse from List.map_reverse]; exact e3.reverse)))
    · rw [upd_ne (fun z => by
        subst z
        have := Xt.fr s5.x hq2
        rw [this] at hc
        cases hc)]
      refine s5.x.1 c o hc fun ⟨ds, hm⟩ => ?_
      rcases cc_M hm with h | h
      · rw [(fq c h).1] at hc; cases hc
      · rw [(fp c h).1] at hc; cases hc
    · rw [upd_ne (ne_of_none hc hq2)]
      exact hc
end
end Ta

set_option Elab.async false
set_option maxRecDepth 100000
set_option linter.unusedVariables false
set_option maxHeartbeats 4000000
namespace Ta
open PySem L2 Ly K51
/-! ### the finite checks, with the numbers as the program reckons them -/
def shOkB (p : List Nat) : Bool := decide (p.length ≤ 100) && (p.all fun x => decide (x ≤ 100)) && decide (p.sum ≤ 100) && decide ((hooksI p).length ≤ 100) && ((hooksI p).all fun z => decide (z.natAbs < 65536)) && decide (0 < prodI (hooksI p)) && decide (prodI (hooksI p) < 1073741824)
theorem shOk_of {p : List Nat} (h : shOkB p = true) : ShOk p := by
  simp only [shOkB, Bool.and_eq_true, decide_eq_true_eq, List.all_eq_true] at h
  obtain ⟨⟨⟨⟨⟨⟨a, b⟩, c⟩, d⟩, e⟩, f⟩, g⟩ := h
  exact ⟨a, b, c, d, fun z hz => e z hz, ⟨f, g⟩⟩
theorem sh9 : ((List.range 9).all fun n => (shapes 9 n n).all shOkB) = true := by decide +kernel
theorem sh9_ok {n : Nat} (hn : n < 9) {p : List Nat} (hp : p ∈ shapes 9 n n) : ShOk p := shOk_of (List.all_eq_true.mp (List.all_eq_true.mp sh9 n (List.mem_range.mpr hn)) p hp)
theorem sh7 : ((List.range 7).all fun n => ((shapes 7 n n).all shOkB && ((shapes 7 n n).all fun p => decide ((ordersI p).natAbs < 65536)) && decide ((((shapes 7 n n).map fun p => ordersI p * ordersI p)).sum = ((turns n).length : Int)))) = true := by decide +kernel
theorem sh7_ok {n : Nat} (hn : n < 7) : (∀ p ∈ shapes 7 n n, ShOk p) ∧ (∀ p ∈ shapes 7 n n, (ordersI p).natAbs < 65536) ∧ (((shapes 7 n n).map fun p => ordersI p * ordersI p)).sum = ((turns n).length : Int) := by
  have h := List.all_eq_true.mp sh7 n (List.mem_range.mpr hn)
  simp only [Bool.and_eq_true, List.all_eq_true, decide_eq_true_eq] at h
  exact ⟨fun p hp => shOk_of (h.1.1 p hp), h.1.2, h.2⟩
/-- what a turn keeps -/
def turnOk (n : Nat) (p : List Nat) : Bool := decide (p.length = n) && decide ((pairOf p).1.length ≤ 100) && decide ((pairOf p).2.length ≤ 100) && decide ((pairOf p).1.length = (pairOf p).2.length) && ((pairOf p).1.all fun r => decide (r.length ≤ 100)) && ((pairOf p).2.all fun r => decide (r.length ≤ 100)) && decide ((shape (pairOf p).2).sum ≤ 100) && ((List.range n).all fun k => decide (p[p.findIdx (· == k)]? = some k)) && (turns (smallOf p).length).contains (smallOf p) && decide ((smallOf p).length < 6) && good p
theorem turns_ok : ((List.range 7).all fun n => (pops n (List.range n)).all (turnOk n)) = true := by decide +kernel
def smOk (m : Nat) (s : List Nat) : Bool := decide (s.length = m) && shOkB (shape (tab s)) && (dT (tab s)).fine && decide (ordersI (shape (tab s)) = (((turns m).filter fun q => Deq (dT (tab q)) (dT (tab s))).length : Int))
theorem small_okI : ((List.range 6).all fun m => (turns m).all (smOk m)) = true := by decide +kernel
structure SmOk (s : List Nat) : Prop where
  sh : ShOk (shape (tab s))
  fine : (dT (tab s)).fine = true
  eq : ordersI (shape (tab s)) = (((turns s.length).filter fun q => Deq (dT (tab q)) (dT (tab s))).length : Int)
theorem smOk_of {m : Nat} (hm : m < 6) {s : List Nat} (hs : s ∈ turns m) : s.length = m ∧ SmOk s := by
  have h := List.all_eq_true.mp (List.all_eq_true.mp small_okI m (List.mem_range.mpr hm)) s hs
  simp only [smOk, Bool.and_eq_true, decide_eq_true_eq] at h
  obtain ⟨⟨⟨a, b⟩, c⟩, d⟩ := h
  exact ⟨a, shOk_of b, c, by rw [a]; exact d⟩
structure TurnOk (n : Nat) (p : List Nat) : Prop where
  len : p.length = n
  l1 : (pairOf p).1.length ≤ 100
  l2 : (pairOf p).2.length ≤ 100
  l12 : (pairOf p).1.length = (pairOf p).2.length
  r1 : ∀ r ∈ (pairOf p).1, r.length ≤ 100
  r2 : ∀ r ∈ (pairOf p).2, r.length ≤ 100
  sum : (shape (pairOf p).2).sum ≤ 100
  ix : ∀ k, k < n → p[p.findIdx (· == k)]? = some k
  pair : pairOf p = ((pairOf (backOf p)).2, (pairOf (backOf p)).1)
  word : wordOf (pairOf p).2 (pairOf p).1 = some (backOf p)
  sl : (smallOf p).length < 6
  sm : SmOk (smallOf p)
  smt : smallOf p ∈ turns (smallOf p).length
theorem turnOk_of {n : Nat} (hn : n < 7) {p : List Nat} (hp : p ∈ pops n (List.range n)) : TurnOk n p := by
  have h := List.all_eq_true.mp (List.all_eq_true.mp turns_ok n (List.mem_range.mpr hn)) p hp
  simp only [turnOk, good, Bool.and_eq_true, decide_eq_true_eq, List.all_eq_true, List.mem_range, List.contains_iff_mem] at h
  obtain ⟨⟨⟨⟨⟨⟨⟨⟨⟨⟨a, b⟩, c⟩, d⟩, e⟩, f⟩, g⟩, i⟩, j⟩, k⟩, l, m⟩ := h
  exact ⟨a, b, c, d, e, f, g, i, l, m, k, (smOk_of k j).2, j⟩
/-! ### data without a text are fine -/
theorem dT_nty (t : List (List Nat)) : (dT t).nty = true := by
  have hr : ∀ r : List Nat, D.ntys (r.map dI) = true := fun r => by
    induction r with
    | nil => rfl
    | cons a r ih => simpa [D.ntys, D.nty] using ih
  show D.ntys (t.map dR) = true
  induction t with
  | nil => rfl
  | cons a t ih => simp [D.ntys, D.nty, hr, ih]
end Ta

set_option Elab.async false
set_option linter.unusedVariables false
namespace K51
/-! ### what an insertion does to a row -/
theorem ins_none : ∀ {r : List Nat} {x : Nat}, (insRow r x).2 = none → (insRow r x).1 = r ++ [x] ∧ ∀ y ∈ r, y ≤ x
  | [], x, _ => ⟨rfl, by simp⟩
  | a :: r, x, h => by
    rw [insRow] at h ⊢
    by_cases q : x < a
    · rw [if_pos q] at h; cases h
    · rw [if_neg q] at h ⊢
      obtain ⟨h1, h2⟩ := ins_none h
      refine ⟨by simp [h1], fun y hy => ?_⟩
      rcases List.mem_cons.mp hy with rfl | hy
      · omega
      · exact h2 y hy
theorem ins_some : ∀ {r : List Nat} {x y : Nat}, (insRow r x).2 = some y → ∃ a b, r = a ++ y :: b ∧ (insRow r x).1 = a ++ x :: b ∧ (∀ z ∈ a, z ≤ x) ∧ x < y
  | [], x, y, h => by cases h
  | c :: r, x, y, h => by
    rw [insRow] at h ⊢
    by_cases q : x < c
    · rw [if_pos q] at h ⊢
      cases h
      exact ⟨[], r, rfl, rfl, by simp, q⟩
    · rw [if_neg q] at h ⊢
      obtain ⟨a, b, h1, h2, h3, h4⟩ := ins_some h
      refine ⟨c :: a, b, by simp [h1], by simp [h2], fun z hz => ?_, h4⟩
      rcases List.mem_cons.mp hz with rfl | hz
      · omega
      · exact h3 z hz
/-! ### tableaux -/
/-- the row behind lies within, and is greater place by place -/
def Cs : List Nat → List Nat → Prop
  | _, [] => True
  | [], _ :: _ => False
  | a :: r, b :: s => a < b ∧ Cs r s
def Semi : List (List Nat) → Prop
  | [] => True
  | r :: rs => r ≠ [] ∧ r.Pairwise (· ≤ ·) ∧ (∀ s, rs.head? = some s → Cs r s) ∧ Semi rs
theorem Cs.len : ∀ {r s : List Nat}, Cs r s → s.length ≤ r.length
  | _, [], _ => by simp
  | [], _ :: _, h => h.elim
  | a :: r, b :: s, h => by simpa using Cs.len h.2
theorem Cs.snoc : ∀ {r s : List Nat} {x : Nat}, Cs r s → Cs (r ++ [x]) s
  | _, [], _, _ => by cases ‹List Nat› <;> trivial
  | [], _ :: _, _, h => h.elim
  | a :: r, b :: s, x, h => ⟨h.1, Cs.snoc h.2⟩
theorem Cs.low : ∀ {a b s : List Nat} {x y : Nat}, Cs (a ++ y :: b) s → x ≤ y → Cs (a ++ x :: b) s
  | [], b, [], x, y, _, _ => trivial
  | [], b, c :: s, x, y, h, q => ⟨by have := h.1; omega, h.2⟩
  | a :: as, b, [], x, y, _, _ => trivial
  | a :: as, b, c :: s, x, y, h, q => ⟨h.1, Cs.low (a := as) h.2 q⟩
theorem Cs.bump : ∀ {a b s : List Nat} {x y : Nat}, Cs (a ++ y :: b) s → (∀ z ∈ a, z ≤ x) → x < y → Cs (a ++ x :: b) (insRow s y).1
  | [], b, [], x, y, _, _, q => ⟨q, by cases b <;> trivial⟩
  | [], b, c :: s, x, y, h, _, q => by
    rw [insRow, if_pos h.1]
    exact ⟨q, h.2⟩
  | a :: as, b, [], x, y, _, h2, q => ⟨by have := h2 a (by simp); omega, by show Cs (as ++ x :: b) []; cases as <;> trivial⟩
  | a :: as, b, c :: s, x, y, h, h2, q => by
    have ha := h2 a (by simp)
    rw [insRow]
    by_cases z : y < c
    · rw [if_pos z]
      exact ⟨by omega, Cs.low (a := as) h.2 (by omega)⟩
    · rw [if_neg z]
      exact ⟨h.1, Cs.bump (a := as) h.2 (fun w hw => h2 w (by simp [hw])) q⟩
theorem sorted_mid {a b : List Nat} {x y : Nat} (h : (a ++ y :: b).Pairwise (· ≤ ·)) (h2 : ∀ z ∈ a, z ≤ x) (h3 : x < y) : (a ++ x :: b).Pairwise (· ≤ ·) := by
  rw [List.pairwise_append] at h ⊢
  obtain ⟨p1, p2, p3⟩ := h
  rw [List.pairwise_cons] at p2 ⊢
  refine ⟨p1, ⟨fun z hz => by have := p2.1 z hz; omega, p2.2⟩, fun z hz w hw => ?_⟩
  rcases List.mem_cons.mp hw with rfl | hw
  · exact h2 z hz
  · exact p3 z hz w (by simp [hw])
theorem semi_put : ∀ {t : List (List Nat)} {x : Nat}, Semi t → Semi (ptIn t x).1 ∧ ∀ s, (ptIn t x).1.head? = some s → s = (insRow (t.headD []) x).1
  | [], x, _ => ⟨⟨by simp, by simp, by simp, trivial⟩, by intro s h; cases h; rfl⟩
  | r :: rs, x, ⟨h1, h2, h3, h4⟩ => by
    rw [ptIn]
    split
    · rename_i e
      obtain ⟨g1, g2⟩ := ins_none e
      refine ⟨⟨by rw [g1]; simp, ?_, fun s hs => ?_, h4⟩, by intro s h; cases h; rfl⟩
      · rw [g1, List.pairwise_append]
        exact ⟨h2, by simp, fun z hz w hw => by simp at hw; subst hw; exact g2 z hz⟩
      · rw [g1]; exact (h3 s hs).snoc
    · rename_i y e
      obtain ⟨a, b, e1, e2, e3, e4⟩ := ins_some e
      obtain ⟨k1, k2⟩ := semi_put (t := rs) (x := y) h4
      refine ⟨⟨by rw [e2]; simp, ?_, fun s hs => ?_, k1⟩, by intro s h; cases h; rfl⟩
      · rw [e2]; exact sorted_mid (e1 ▸ h2) e3 e4
      · rw [k2 s hs, e2]
        have hc : Cs (a ++ y :: b) (rs.headD []) := by
          rw [← e1]
          cases rs with
          | nil => cases r <;> trivial
          | cons q qs => exact h3 q rfl
        exact hc.bump e3 e4
theorem tab_app (w : List Nat) (x : Nat) : tab (w ++ [x]) = (ptIn (tab w) x).1 := by simp [tab]
theorem snoc_ind {α : Type} {P : List α → Prop} (h0 : P []) (hs : ∀ w x, P w → P (w ++ [x])) : ∀ w, P w := fun w => by
  have : ∀ (n : Nat) (w : List α), w.length = n → P w := by
    intro n
    induction n with
    | zero => intro w h; rw [List.eq_nil_of_length_eq_zero h]; exact h0
    | succ n ih =>
      intro w h
      have hne : w ≠ [] := by intro z; subst z; cases h
      rw [← List.dropLast_concat_getLast hne]
      exact hs _ _ (ih _ (by rw [List.length_dropLast]; omega))
  exact this _ w rfl
theorem semi_tab : ∀ w, Semi (tab w) := snoc_ind trivial fun w x ih => by rw [tab_app]; exact (semi_put ih).1
/-! ### rows that fall -/
def step (S : Nat → Nat) (x : Nat) : Nat → Nat := fun v => if v ≤ x then max (S v) (1 + S (x + 1)) else S v
def proc (S : Nat → Nat) (l : List Nat) : Nat → Nat := l.foldl step S
def Anti (S : Nat → Nat) : Prop := ∀ u v, u ≤ v → S v ≤ S u
theorem step_anti {S : Nat → Nat} {x : Nat} (h : Anti S) : Anti (step S x) := by
  intro u v q
  have := h u v q
  unfold step
  split <;> split <;> omega
theorem proc_anti : ∀ {l : List Nat} {S : Nat → Nat}, Anti S → Anti (proc S l)
  | [], _, h => h
  | x :: l, S, h => proc_anti (l := l) (step_anti h)
theorem proc_app (S : Nat → Nat) (a b : List Nat) : proc S (a ++ b) = proc (proc S a) b := List.foldl_append
theorem step_self {S : Nat → Nat} {x v : Nat} (h : v ≤ x) : step S x v = max (S v) (1 + S (x + 1)) := if_pos h
theorem step_out {S : Nat → Nat} {x v : Nat} (h : x < v) : step S x v = S v := if_neg (by omega)
theorem rel1 {S : Nat → Nat} {x y z : Nat} (h : Anti S) (h1 : x < y) (h2 : y ≤ z) : step (step (step S y) x) z = step (step (step S y) z) x := by
  funext v
  have a1 := h (x + 1) (y + 1) (by omega)
  have a2 := h (y + 1) (z + 1) (by omega)
  have e1 : step (step S y) x (z + 1) = S (z + 1) := by rw [step_out (by omega), step_out (by omega)]
  have e2 : step S y (z + 1) = S (z + 1) := step_out (by omega)
  have e3 : step S y (x + 1) = max (S (x + 1)) (1 + S (y + 1)) := step_self (by omega)
  have e4 : step (step S y) z (x + 1) = max (max (S (x + 1)) (1 + S (y + 1))) (1 + S (z + 1)) := by rw [step_self (by omega), e3, e2]
  by_cases q1 : v ≤ x
  · rw [step_self (show v ≤ z by omega), step_self q1, step_self q1, step_self (show v ≤ z by omega), e1, e2, e3, e4]
    omega
  · rw [step_out (show x < v by omega) (S := step (step S y) z)]
    by_cases q2 : v ≤ z
    · rw [step_self q2, step_self q2, step_out (show x < v by omega), e1, e2]
    · rw [step_out (show z < v by omega), step_out (show z < v by omega), step_out (show x < v by omega)]
theorem rel2 {S : Nat → Nat} {x y z : Nat} (h : Anti S) (h1 : x ≤ y) (h2 : y < z) : step (step (step S x) z) y = step (step (step S z) x) y := by
  funext v
  have a1 := h (x + 1) (y + 1) (by omega)
  have a2 := h (y + 1) (z + 1) (by omega)
  have e1 : step (step S x) z (y + 1) = max (S (y + 1)) (1 + S (z + 1)) := by rw [step_self (by omega), step_out (by omega), step_out (by omega)]
  have e2 : step (step S z) x (y + 1) = max (S (y + 1)) (1 + S (z + 1)) := by rw [step_out (by omega), step_self (by omega)]
  have e3 : step S z (x + 1) = max (S (x + 1)) (1 + S (z + 1)) := step_self (by omega)
  have e4 : step S x (z + 1) = S (z + 1) := step_out (by omega)
  by_cases q1 : v ≤ x
  · rw [step_self (show v ≤ y by omega), step_self (show v ≤ y by omega), e1, e2, step_self (show v ≤ z by omega), step_self q1, step_self q1, step_self (show v ≤ z by omega), e3, e4]
    omega
  · by_cases q2 : v ≤ y
    · rw [step_self q2, step_self q2, e1, e2, step_self (show v ≤ z by omega), step_out (show x < v by omega), step_out (show x < v by omega), step_self (show v ≤ z by omega), e4]
    · rw [step_out (show y < v by omega), step_out (show y < v by omega), step_out (show x < v by omega) (S := step S z)]
      by_cases q3 : v ≤ z
      · rw [step_self q3, step_self q3, step_out (show x < v by omega), e4]
      · rw [step_out (show z < v by omega), step_out (show z < v by omega), step_out (show x < v by omega)]
theorem moveA : ∀ {c : List Nat} {S : Nat → Nat} {x y : Nat}, Anti S → x < y → (y :: c).Pairwise (· ≤ ·) → proc (step S y) (c ++ [x]) = proc (step S y) (x :: c)
  | [], _, _, _, _, _, _ => rfl
  | c1 :: cs, S, x, y, h, q, p => by
    rw [List.pairwise_cons] at p
    have hy := p.1 c1 (by simp)
    show proc (step (step S y) c1) (cs ++ [x]) = proc (step (step (step S y) x) c1) cs
    rw [moveA (step_anti h) (by omega) p.2, rel1 h q hy]
    rfl
theorem moveB : ∀ {a : List Nat} {S : Nat → Nat} {x y : Nat}, Anti S → x < y → a.Pairwise (· ≤ ·) → (∀ z ∈ a, z ≤ x) → proc S (a ++ [y, x]) = proc S (y :: (a ++ [x]))
  | [], _, _, _, _, _, _, _ => rfl
  | b :: as, S, x, y, h, q, p, h2 => by
    rw [List.pairwise_cons] at p
    show proc (step S b) (as ++ [y, x]) = proc (step (step S y) b) (as ++ [x])
    rw [moveB (step_anti h) q p.2 fun z hz => h2 z (by simp [hz])]
    cases as with
    | nil =>
      show proc (step (step (step S b) y) x) [] = proc (step (step (step S y) b) x) []
      rw [rel2 h (h2 b (by simp)) q]
    | cons d ds =>
      have hd := h2 d (by simp)
      show proc (step (step (step S b) y) d) (ds ++ [x]) = proc (step (step (step S y) b) d) (ds ++ [x])
      rw [rel2 h (p.1 d (by simp)) (by omega)]
theorem moveRow {a c : List Nat} {S : Nat → Nat} {x y : Nat} (h : Anti S) (p : (a ++ y :: c).Pairwise (· ≤ ·)) (h2 : ∀ z ∈ a, z ≤ x) (q : x < y) : proc S (a ++ y :: c ++ [x]) = proc S (y :: (a ++ x :: c)) := by
  rw [List.pairwise_append] at p
  have e1 : proc S (a ++ y :: c ++ [x]) = proc (step (proc S a) y) (c ++ [x]) := by
    rw [List.append_assoc, proc_app]
    rfl
  rw [e1, moveA (proc_anti h) q p.2.1]
  have e2 : proc (step (proc S a) y) (x :: c) = proc (proc S (a ++ [y, x])) c := by rw [proc_app]; rfl
  rw [e2, moveB h q p.1 h2, ← proc_app]
  simp
def rd : List (List Nat) → List Nat
  | [] => []
  | r :: rs => rd rs ++ r
theorem rd_put : ∀ {t : List (List Nat)} {x : Nat} {S : Nat → Nat}, Semi t → Anti S → proc S (rd t ++ [x]) = proc S (rd (ptIn t x).1)
  | [], x, S, _, _ => rfl
  | r :: rs, x, S, ⟨h1, h2, h3, h4⟩, h => by
    rw [ptIn]
    split
    · rename_i e
      obtain ⟨g1, _⟩ := ins_none e
      rw [rd, rd, g1, List.append_assoc]
    · rename_i y e
      obtain ⟨a, b, e1, e2, e3, e4⟩ := ins_some e
      rw [rd, rd, List.append_assoc, proc_app]
      have := moveRow (S := proc S (rd rs)) (proc_anti h) (e1 ▸ h2) e3 e4
      rw [← e1, ← e2] at this
      rw [this, proc_app, ← rd_put h4 h, proc_app]
      rfl
def S0 : Nat → Nat := fun _ => 0
theorem S0_anti : Anti S0 := fun _ _ _ => Nat.le_refl _
theorem proc_tab : ∀ w, proc S0 (rd (tab w)) = proc S0 w := snoc_ind rfl fun w x ih => by
  rw [tab_app, ← rd_put (semi_tab w) S0_anti, proc_app, ih, ← proc_app]
theorem proc_out : ∀ {l : List Nat} {S : Nat → Nat} {v : Nat}, (∀ a ∈ l, a < v) → proc S l v = S v
  | [], _, _, _ => rfl
  | x :: l, S, v, h => by
    show proc (step S x) l v = S v
    rw [proc_out fun a ha => h a (by simp [ha]), step_out (h x (by simp))]
theorem proc_row : ∀ (l : List Nat) {S : Nat → Nat}, Anti S → l.Pairwise (· ≤ ·) → ∀ v, proc S l v ≤ 1 + S v := by
  refine snoc_ind (fun _ _ v => by show _ ≤ _; unfold proc; simp) fun w x ih => ?_
  intro S h p v
  rw [List.pairwise_append] at p
  have i1 := ih h p.1
  rw [proc_app]
  show step (proc S w) x v ≤ _
  by_cases q : v ≤ x
  · rw [step_self q, proc_out (v := x + 1) fun a ha => by have := p.2.2 a ha x (by simp); omega]
    have := i1 v
    have := h v (x + 1) (by omega)
    omega
  · rw [step_out (by omega)]
    exact i1 v
theorem proc_mono : ∀ {l : List Nat} {S : Nat → Nat} (v : Nat), S v ≤ proc S l v
  | [], _, _ => Nat.le_refl _
  | x :: l, S, v => by
    refine Nat.le_trans ?_ (proc_mono (l := l) (S := step S x) v)
    unfold step
    split <;> omega
theorem rows_fall : ∀ {t : List (List Nat)}, Semi t → (∀ v, proc S0 (rd t) v ≤ t.length) ∧ ∀ h, t.headD [] = h → ∀ a r, h = a :: r → t.length ≤ proc S0 (rd t) a
  | [], _ => ⟨fun v => Nat.le_refl _, fun h e a r q => by simp at e; subst e; cases q⟩
  | r :: rs, ⟨h1, h2, h3, h4⟩ => by
    obtain ⟨i1, i2⟩ := rows_fall h4
    have an : Anti (proc S0 (rd rs)) := proc_anti S0_anti
    refine ⟨fun v => ?_, fun h e a r' q => ?_⟩
    · rw [rd, proc_app]
      have := proc_row r an h2 v
      have := i1 v
      simp
      omega
    · simp at e
      subst e
      subst q
      rw [rd, proc_app]
      have e1 : proc (proc S0 (rd rs)) (a :: r') = proc (step (proc S0 (rd rs)) a) r' := rfl
      rw [e1]
      refine Nat.le_trans ?_ (proc_mono a)
      rw [step_self (Nat.le_refl a)]
      have : rs.length ≤ proc S0 (rd rs) (a + 1) := by
        cases rs with
        | nil => simp
        | cons q qs =>
          have hc := h3 q rfl
          cases q with
          | nil => exact absurd rfl h4.1
          | cons b q' =>
            have := i2 (b :: q') rfl b q' rfl
            exact Nat.le_trans this (an (a + 1) b hc.1)
      simp
      omega
theorem rows_count {t : List (List Nat)} (h : Semi t) : proc S0 (rd t) 0 = t.length := by
  obtain ⟨h1, h2⟩ := rows_fall h
  refine Nat.le_antisymm (h1 0) ?_
  cases t with
  | nil => simp
  | cons r rs =>
    cases r with
    | nil => exact absurd rfl h.1
    | cons a r' => exact Nat.le_trans (h2 (a :: r') rfl a r' rfl) (proc_anti S0_anti 0 a (Nat.zero_le _))
theorem maxl_snoc (l : List Nat) (b : Nat) : maxl (l ++ [b]) = max (maxl l) b := by simp [maxl]
theorem best_fall : ∀ w v, proc S0 w v = maxl (((best true w).filter fun p => decide (v ≤ p.1)).map (·.2)) := by
  refine snoc_ind (fun v => rfl) fun w x ih v => ?_
  have e : best true (w ++ [x]) = bestStep true (best true w) x := by simp [best]
  rw [proc_app, e, bestStep, List.filter_append, List.map_append]
  show step (proc S0 w) x v = _
  have hx : (1 + maxl (((best true w).filter fun p => decide (x < p.1)).map (·.2))) = 1 + proc S0 w (x + 1) := by
    rw [ih (x + 1)]
    rfl
  simp only [if_true]
  rw [hx]
  by_cases q : v ≤ x
  · rw [step_self q]
    simp only [List.filter_cons, decide_eq_true q, if_true, List.filter_nil, List.map_cons, List.map_nil]
    rw [maxl_snoc, ← ih v]
  · rw [step_out (by omega)]
    simp only [List.filter_cons, decide_eq_false q, Bool.false_eq_true, if_false, List.filter_nil, List.map_nil, List.append_nil]
    exact ih v
theorem rows_longest (w : List Nat) : (tab w).length = longest true w := by
  rw [← rows_count (semi_tab w), proc_tab, best_fall, longest]
  congr 2
  rw [List.filter_eq_self.mpr fun p _ => by simp]
/-! ### rows that do not fall -/
def cnt (r : List Nat) (v : Nat) : Nat := (r.filter fun y => decide (y ≤ v)).length
theorem cnt_app (a b : List Nat) (v : Nat) : cnt (a ++ b) v = cnt a v + cnt b v := by simp [cnt]
theorem cnt_cons (a : Nat) (b : List Nat) (v : Nat) : cnt (a :: b) v = (if a ≤ v then 1 else 0) + cnt b v := by
  unfold cnt
  rw [List.filter_cons]
  by_cases h : a ≤ v <;> simp [h, Nat.add_comm]
theorem cnt_all {a : List Nat} {v : Nat} (h : ∀ z ∈ a, z ≤ v) : cnt a v = a.length := by
  unfold cnt
  rw [List.filter_eq_self.mpr fun z hz => decide_eq_true (h z hz)]
theorem cnt_none {a : List Nat} {v : Nat} (h : ∀ z ∈ a, v < z) : cnt a v = 0 := by
  unfold cnt
  rw [List.filter_eq_nil_iff.mpr fun z hz => by have := h z hz; simp; omega]
  rfl
theorem cnt_le (a : List Nat) (v : Nat) : cnt a v ≤ a.length := List.length_filter_le _ _
theorem cnt_ins {r : List Nat} {x : Nat} (p : r.Pairwise (· ≤ ·)) (v : Nat) : cnt (insRow r x).1 v = if x ≤ v then max (cnt r v) (1 + cnt r x) else cnt r v := by
  cases e : (insRow r x).2 with
  | none =>
    obtain ⟨g1, g2⟩ := ins_none e
    rw [g1, cnt_app, cnt_cons, cnt_all g2]
    have := cnt_le r v
    have e0 : cnt [] v = 0 := rfl
    by_cases q : x ≤ v
    · rw [if_pos q, if_pos q, cnt_all fun z hz => Nat.le_trans (g2 z hz) q, e0]
      omega
    · rw [if_neg q, if_neg q, e0]
      omega
  | some y =>
    obtain ⟨a, b, e1, e2, e3, e4⟩ := ins_some e
    rw [e1, List.pairwise_append, List.pairwise_cons] at p
    have hb : ∀ z ∈ b, y ≤ z := p.2.1.1
    have c1 : cnt r x = a.length := by
      rw [e1, cnt_app, cnt_cons, cnt_all e3, cnt_none fun z hz => by have := hb z hz; omega, if_neg (by omega)]
      omega
    rw [e2, c1, e1, cnt_app, cnt_cons, cnt_app, cnt_cons]
    by_cases q : x ≤ v
    · rw [if_pos q, if_pos q, cnt_all fun z hz => Nat.le_trans (e3 z hz) q]
      by_cases q2 : y ≤ v
      · rw [if_pos q2]; omega
      · rw [if_neg q2, cnt_none (a := b) fun z hz => by have := hb z hz; omega]; omega
    · rw [if_neg q, if_neg q, if_neg (by omega)]
theorem best_rise : ∀ w v, cnt ((tab w).headD []) v = maxl (((best false w).filter fun p => decide (p.1 ≤ v)).map (·.2)) := by
  refine snoc_ind (fun v => rfl) fun w x ih v => ?_
  have e : best false (w ++ [x]) = bestStep false (best false w) x := by simp [best]
  have hs := semi_put (x := x) (semi_tab w)
  have hh : (tab (w ++ [x])).headD [] = (insRow ((tab w).headD []) x).1 := by
    rw [tab_app]
    cases q : (ptIn (tab w) x).1 with
    | nil =>
      exfalso
      cases t : tab w with
      | nil => rw [t] at q; simp [ptIn] at q
      | cons r rs => rw [t, ptIn] at q; split at q <;> cases q
    | cons r rs => exact hs.2 r (by rw [q]; rfl)
  have hp : ((tab w).headD []).Pairwise (· ≤ ·) := by
    have := semi_tab w
    cases t : tab w with
    | nil => simp
    | cons r rs => rw [t] at this; exact this.2.1
  rw [hh, cnt_ins hp, e, bestStep, List.filter_append, List.map_append, ih v, ih x]
  simp only [Bool.false_eq_true, if_false]
  by_cases q : x ≤ v
  · rw [if_pos q]
    simp only [List.filter_cons, decide_eq_true q, if_true, List.filter_nil, List.map_cons, List.map_nil]
    rw [maxl_snoc]
  · rw [if_neg q]
    simp only [List.filter_cons, decide_eq_false q, Bool.false_eq_true, if_false, List.filter_nil, List.map_nil, List.append_nil]
theorem row_longest (w : List Nat) : ((tab w).headD []).length = longest false w := by
  have big : ∀ (l : List Nat), ∃ V, ∀ z ∈ l, z ≤ V := fun l => by
    induction l with
    | nil => exact ⟨0, by simp⟩
    | cons a l ih =>
      obtain ⟨V, h⟩ := ih
      refine ⟨max a V, fun z hz => ?_⟩
      rcases List.mem_cons.mp hz with rfl | hz
      · omega
      · have := h z hz; omega
  obtain ⟨V, hV⟩ := big ((tab w).headD [] ++ (best false w).map (·.1))
  rw [← cnt_all (v := V) fun z hz => hV z (List.mem_append_left _ hz), best_rise, longest]
  congr 2
  rw [List.filter_eq_self.mpr fun p hp => decide_eq_true (hV p.1 (List.mem_append_right _ (List.mem_map.mpr ⟨p, hp, rfl⟩)))]
/-! ### the shape of a tableau is a parting -/
theorem mem_shapes : ∀ {p : List Nat} {f n m : Nat}, p.Pairwise (fun a b => b ≤ a) → (∀ x ∈ p, 0 < x ∧ x ≤ m) → p.sum = n → n < f → p ∈ shapes f n m
  | [], f + 1, n, m, _, _, hs, _ => by
    simp at hs
    subst hs
    simp [shapes]
  | a :: r, f + 1, n, m, h1, h2, hs, hf => by
    rw [List.pairwise_cons] at h1
    rw [List.sum_cons] at hs
    obtain ⟨a0, am⟩ := h2 a (by simp)
    rw [shapes, if_neg (by omega), List.mem_flatMap]
    refine ⟨min n m - a, List.mem_range.mpr (by omega), ?_⟩
    rw [show min n m - (min n m - a) = a by omega, List.mem_map]
    exact ⟨r, mem_shapes h1.2 (fun x hx => ⟨(h2 x (by simp [hx])).1, h1.1 x hx⟩) (by omega) (by omega), rfl⟩
theorem semi_shape : ∀ {t : List (List Nat)}, Semi t → (shape t).Pairwise (fun a b => b ≤ a) ∧ ∀ x ∈ shape t, 0 < x ∧ ∀ s, t.head? = some s → x ≤ s.length
  | [], _ => ⟨by simp [shape], by simp [shape]⟩
  | r :: rs, ⟨h1, h2, h3, h4⟩ => by
    obtain ⟨i1, i2⟩ := semi_shape h4
    have hx : ∀ x ∈ shape rs, x ≤ r.length := fun x hx => by
      cases rs with
      | nil => simp [shape] at hx
      | cons q qs => exact Nat.le_trans ((i2 x hx).2 q rfl) (h3 q rfl).len
    refine ⟨List.pairwise_cons.mpr ⟨hx, i1⟩, fun x hx' => ?_⟩
    rcases List.mem_cons.mp hx' with rfl | hx'
    · exact ⟨List.length_pos_iff.mpr h1, fun s e => by cases e; exact Nat.le_refl _⟩
    · exact ⟨(i2 x hx').1, fun s e => by cases e; exact hx x hx'⟩
theorem ins_sum (r : List Nat) (x : Nat) : (insRow r x).1.length = r.length + if (insRow r x).2 = none then 1 else 0 := by
  cases e : (insRow r x).2 with
  | none => rw [(ins_none e).1]; simp
  | some y =>
    obtain ⟨a, b, e1, e2, _, _⟩ := ins_some e
    rw [e2, e1]
    simp
theorem put_sum : ∀ (t : List (List Nat)) (x : Nat), (shape (ptIn t x).1).sum = (shape t).sum + 1
  | [], x => by simp [ptIn, shape]
  | r :: rs, x => by
    have := ins_sum r x
    rw [ptIn]
    split
    · rename_i e
      rw [e] at this
      simp [shape] at this ⊢
      omega
    · rename_i y e
      rw [e] at this
      have ih := put_sum rs y
      simp [shape] at this ih ⊢
      omega
theorem tab_sum : ∀ w, (shape (tab w)).sum = w.length := snoc_ind rfl fun w x ih => by rw [tab_app, put_sum, ih]; simp
theorem le_sum : ∀ {l : List Nat} {x : Nat}, x ∈ l → x ≤ l.sum
  | a :: l, x, h => by
    rw [List.sum_cons]
    rcases List.mem_cons.mp h with rfl | h
    · omega
    · have := le_sum h; omega
theorem tab_shape (w : List Nat) (h : w.length < 9) : shape (tab w) ∈ shapes 9 w.length w.length := by
  obtain ⟨h1, h2⟩ := semi_shape (semi_tab w)
  have hs := tab_sum w
  refine mem_shapes h1 (fun x hx => ⟨(h2 x hx).1, ?_⟩) hs h
  rw [← hs]
  exact le_sum hx
end K51

set_option Elab.async false
set_option maxRecDepth 100000
set_option linter.unusedVariables false
set_option maxHeartbeats 4000000
namespace Ta
open PySem L2 Ly K51
namespace Cm
section
variable {P : Program} {w : World} {K : PySem.W.Frag} {mg : Str → Option Value} {base : Heap}
/-! ### law's first row: w -/
theorem law_start {Nm : List Str} {H : Hp} {a : Addr} {ns : List Int} {m : Int} {u : TS} {Q : VK} {nx : L2.St → Hp → Prop} (hS : SqL K H a (ns.map V.int)) (h63 : ns.length ≤ 63) (h0 : 0 ≤ m) (h1 : m ≤ 1000) (q : ∀ H', Q (.bl true) H')
    (k : ∀ p : WP, SV (Ww p) u ((start0 Nm [.raw (.ref a)]).set 1 (.d (rw p))) (fun o => o = .rt (.bl true))) :
    tSeq (tAsg (tDisp [(tC (.str "draws"), tCall (spDraws K) [] E0 (tCons (tVar 0) (tCons (tC (.int m)) tNil))), (tC (.str "at"), tC (.int 0))]) (gName 1)) u { nx := nx, rt := Q } (L2.start Nm [.ref a]) H := by
  intro dw hw
  have x0 : Same H (upd H dw (.dK [])) := fun b o e => by rw [upd_ne (ne_of_none e hw)]; exact e
  refine ⟨_, rfl, a, ns, m, rfl, x0.seq hS, h63, h0, h1, fun dd zs H' hdd x1 e1 hz => ?_⟩
  have e2 : H' dw = some (.dK []) := x1 _ _ upd_same
  have hne : dd ≠ dw := fun z => by rw [z, upd_same] at hdd; cases hdd
  refine ⟨e2, wk dd 0, rfl, by show 2 ≤ 15; decide, ?_⟩
  have em : mergeK [] (wk dd 0) = wk dd 0 := by kernel_rfl
  rw [em]
  have ii : (Ww ⟨dw, dd, zs⟩).I (upd H' dw (.dK (wk dd 0))) := ⟨hz, 0, Int.le_refl 0, upd_same, by rw [upd_ne hne]; exact e1⟩
  have s0 := sl_start (N := Nm) (vs := [.ref a]) (ds := [.raw (.ref a)]) (Ww ⟨dw, dd, zs⟩) ii (.cons (.raw _) .nil)
  refine k ⟨dw, dd, zs⟩ _ _ _ (s0.setd (v := .ref dw) (x := rw ⟨dw, dd, zs⟩) (.raw _) 1) _ ⟨(fun _ _ _ e => by cases e), fun y v H' e x1 r1 => ?_, (fun _ _ _ _ e => by cases e), (fun _ _ _ e => by cases e), (fun _ _ _ e => by cases e)⟩
  cases e
  cases r1
  exact q _
/-- what law promises -/
def spLaw (K : PySem.W.Frag) : Sp := fun vs H Q _ => ∃ (a : Addr) (ns : List Int), vs = [.ref a] ∧ SqL K H a (ns.map V.int) ∧ ns.length ≤ 63 ∧ ∀ H', Q (.bl true) H'
/-- a draw -/
theorem dn_next {p : WP} {Γ : List AV} {te : TE} {m : Int} (h1 : Γ[1]? = some (.d (rw p))) (h2 : ED (Ww p) te Γ (.int m)) (hm : 0 < m) : Dn (Ww p) (tCall (spX Ww okNext PNext) [] E0 (tCons (tVar 1) (tCons te tNil))) Γ (fun y => ∃ n : Int, y = .int n ∧ 0 ≤ n ∧ n < m) :=
  (ed_call (ea_cons (ed_var h1) (ea_cons h2 an_nil)) (sd_X ⟨m, rfl, hm⟩)).imp fun y h => h _ _ rfl

end
end Cm
section
variable {P : Program} {w : World} {K : PySem.W.Frag} {mg : Str → Option Value} {base : Heap}
theorem dT_shaped (t : List (List Nat)) : SeqAt.shaped (dT t).py = true := by
  have h0 : ∀ r : List Nat, PyData.canLayAll0 (D.pys (r.map dI)) = true ∧ PyData.depthAll (D.pys (r.map dI)) = 0 := fun r => by
    induction r with
    | nil => exact ⟨rfl, rfl⟩
    | cons a r ih => simpa [D.pys, D.py, PyData.canLayAll0, PyData.canLay0, PyData.depthAll, PyData.depth] using ih
  have h1 : PyData.canLayAll0 (D.pys (t.map dR)) = true ∧ PyData.depthAll (D.pys (t.map dR)) ≤ 1 := by
    induction t with
    | nil => exact ⟨rfl, Nat.zero_le _⟩
    | cons a t ih =>
      simp only [List.map_cons, D.pys, dR, D.py, PyData.canLayAll0, PyData.canLay0, PyData.depthAll, PyData.depth, h0, ih.1, Bool.and_self, true_and]
      exact Nat.max_le.mpr ⟨by omega, ih.2⟩
  simp only [SeqAt.shaped, dT, D.py, PyData.canLay0, PyData.depth, Bool.and_eq_true, decide_eq_true_eq]
  exact ⟨h1.1, by have := h1.2; omega⟩
theorem dT_fine (t : List (List Nat)) : (dT t).fine = true := by
  rw [D.fine, dT_nty, dT_shaped]
  rfl
theorem dT_nil (t : List (List Nat)) : Deq (dT t) (.tup []) = decide (t = []) := by
  cases t with
  | nil => rfl
  | cons a t => simp [Deq, D.py, D.pys, PyData.eqv, PyData.eqvAll]
/-! ### the size of a pair's data -/
theorem okS_R {r : List Nat} (h : r.length ≤ 1000) : Cm.okS (dR r) = true := by
  have h2 : ∀ r : List Nat, Cm.okSs (r.map dI) = true := fun r => by
    induction r with
    | nil => rfl
    | cons a r ih => simpa [Cm.okSs, Cm.okS] using ih
  simp [Cm.okS, h2, h]
theorem lvl_R (r : List Nat) : Cm.lvl (dR r) ≤ 1 := by
  have h2 : ∀ r : List Nat, Cm.lvls (r.map dI) = 0 := fun r => by
    induction r with
    | nil => rfl
    | cons a r ih => simpa [Cm.lvls, Cm.lvl] using ih
  simp [Cm.lvl, h2]
theorem okS_T {t : List (List Nat)} (h : t.length ≤ 1000) (h2 : ∀ r ∈ t, r.length ≤ 1000) : Cm.okS (dT t) = true := by
  have h3 : ∀ t : List (List Nat), (∀ r ∈ t, r.length ≤ 1000) → Cm.okSs (t.map dR) = true := fun t => by
    induction t with
    | nil => intro _; rfl
    | cons a t ih =>
      intro h
      rw [List.map_cons, Cm.okSs, okS_R (h a (by simp)), ih fun r hr => h r (by simp [hr])]
      rfl
  simp [Cm.okS, h3 t h2, h]
theorem lvl_T (t : List (List Nat)) : Cm.lvl (dT t) ≤ 2 := by
  have h2 : ∀ t : List (List Nat), Cm.lvls (t.map dR) ≤ 1 := fun t => by
    induction t with
    | nil => exact Nat.zero_le _
    | cons a t ih =>
      rw [List.map_cons, Cm.lvls]
      have := lvl_R a
      exact Nat.max_le.mpr ⟨this, ih⟩
  have := h2 t
  simp only [dT, Cm.lvl]
  omega
theorem pair_lvl (a b : List (List Nat)) : Cm.lvl (.tup [dT a, dT b]) < 10 := by
  have h1 := lvl_T a
  have h2 := lvl_T b
  show max (Cm.lvl (dT a)) (max (Cm.lvl (dT b)) 0) + 1 < 10
  omega
theorem pair_okS {a b : List (List Nat)} (h1 : Cm.okS (dT a) = true) (h2 : Cm.okS (dT b) = true) : Cm.okS (.tup [dT a, dT b]) = true := by
  show (decide (2 ≤ 1000) && (Cm.okS (dT a) && (Cm.okS (dT b) && true))) = true
  rw [h1, h2]
  rfl
theorem pops_step {n : Nat} {left : List Nat} {i x : Nat} {q : List Nat} (h : left[i]? = some x) (hq : q ∈ pops n (left.eraseIdx i)) : x :: q ∈ pops (n + 1) left := by
  have hi : i < left.length := lt_of_get h
  refine List.mem_flatMap.mpr ⟨i, List.mem_range.mpr hi, List.mem_map.mpr ⟨q, hq, ?_⟩⟩
  rw [List.getD_eq_getElem?_getD, h]
  rfl
theorem list_fine (l : List Nat) : (D.tup (l.map dI)).fine = true := by
  have h1 : D.ntys (l.map dI) = true := by
    induction l with
    | nil => rfl
    | cons a r ih => simpa [D.ntys, D.nty] using ih
  have h0 : PyData.canLayAll0 (D.pys (l.map dI)) = true ∧ PyData.depthAll (D.pys (l.map dI)) = 0 := by
    clear h1
    induction l with
    | nil => exact ⟨rfl, rfl⟩
    | cons a r ih => simpa [D.pys, D.py, PyData.canLayAll0, PyData.canLay0, PyData.depthAll, PyData.depth] using ih
  simp [D.fine, D.nty, h1, SeqAt.shaped, D.py, PyData.canLay0, PyData.depth, h0]
theorem erase_map {α β : Type} (f : α → β) : ∀ (l : List α) (k : Nat), (l.map f).eraseIdx k = (l.eraseIdx k).map f
  | [], _ => rfl
  | _ :: _, 0 => rfl
  | a :: l, k + 1 => by
    show f a :: (l.map f).eraseIdx k = f a :: (l.eraseIdx k).map f
    rw [erase_map f l k]
theorem maps_nat : ∀ {es : List D} {m : Int}, (∀ e ∈ es, ∃ n : Int, e = .int n ∧ 0 ≤ n ∧ n < m) → ∃ v : List Nat, es = v.map dI
  | [], _, _ => ⟨[], rfl⟩
  | e :: es, m, h => by
    obtain ⟨n, rfl, h0, _⟩ := h e (by simp)
    obtain ⟨v, rfl⟩ := maps_nat (es := es) (m := m) fun e he => h e (by simp [he])
    obtain ⟨n, rfl⟩ := Int.eq_ofNat_of_zero_le h0
    exact ⟨n :: v, rfl⟩
theorem sclaw : FnScope ["script", "w", "n", "shape", "turn", "left", "p", "back", "k", "one", "other", "word", "tableau", "row", "small", "q"] ["script"] (defScope slaw) := ⟨rfl, rfl, rfl, by decide +kernel, rfl, by decide +kernel, by decide +kernel⟩
theorem ok_law {f : Addr} {fd : FuncData} (F : Fun K "law" "law" slaw f fd) (T : Txt mg)
    (h_law_draws : Df P w K mg base 1 "_law_draws" ["script", "many"] (Cm.spDraws K)) (h_law_next : Df P w K mg base 1 "_law_next" ["w", "many"] (spX Cm.Ww Cm.okNext Cm.PNext))
    (h_law_shapes : Df P w K mg base 7 "_law_shapes" ["n", "most"] (spGL (RShps 7))) (h_law_turns : Df P w K mg base 7 "_law_turns" ["n"] (spGL (RTurns 7)))
    (h_law_same : Df P w K mg base 10 "_law_same" ["actual", "due"] (spG (Cm.RSame 10))) (h_law_longest : Df P w K mg base 1 "_law_longest" ["word", "falls"] (spG RLong))
    (hcount_orders : Df P w K mg base 3 "count_orders" ["shape"] (spG RCount)) (hcount_words : Df P w K mg base 4 "count_words" ["tableau"] (spG RCountW)) (htableau_of : Df P w K mg base 3 "tableau_of" ["word"] (spG RTab))
    (hpair_of : Df P w K mg base 2 "pair_of" ["word"] (spG RPair)) (hword_of : Df P w K mg base 2 "word_of" ["tableau", "order"] (spG RWord)) : FnOk P w K mg base CX0 20 f fd ["script"] (Cm.spLaw K) := by
  refine F.ok sclaw (fun vs H Q E h => ?_) (fun cdv A outer s H vs Q E hr h => ?_)
  · obtain ⟨a, ns, rfl, _⟩ := h
    rfl
  obtain ⟨a, ns, rfl, hS, h63, q⟩ := h
  refine ⟨_, (pss_cons (ps_set (i := 1) sclaw.nd rfl (by first | exact Or.inl rfl | exact Or.inr rfl) (pe_disp (pps_cons pe_str (pe_df h_law_draws (hr.mono (by omega)) (by rfl) (pa_cons (pv 0) (pa_cons pe_int pa_nil))) (pps_cons pe_str pe_int pps_nil)) (by rfl) (by rfl) (fun z => by cases z) (by decide)))
    (pss_cons (ps_set (i := 2) sclaw.nd rfl (by first | exact Or.inl rfl | exact Or.inr rfl) (pe_df h_law_next (hr.mono (by omega)) (by rfl) (pa_cons (pv 1) (pa_cons pe_int pa_nil))))
    (pss_cons (ps_if (pt_cmpR (op_neU (hr.units)) (pe_callB (call_sumU rfl) (by rfl) T.b_sum bt_sum (pa_cons (pe_lc (own := [("shape", 3)]) (g := (gName 3)) (tt := tYes) (te := (tOp rMulI (tCall _ [] E0 (tCons (tVar 3) tNil)) (tCall _ [] E0 (tCons (tVar 3) tNil)))) rfl sclaw.nd (pi_list (pe_df h_law_shapes (hr.mono (by omega)) (by rfl) (pa_cons (pv 2) (pa_cons (pv 2) pa_nil)))) (blkOk_by (by kernel_rfl)) (fun _ _ _ _ _ => (pg_name (i := 3) sclaw.nd rfl (by first | exact Or.inl rfl | exact Or.inr rfl))) (fun _ _ _ _ _ => pts_nil) (fun _ _ _ _ _ => (pe_op op_mulW (pe_df hcount_orders (hr.mono (by omega)) (by rfl) (pa_cons (pv 3) pa_nil)) (pe_df hcount_orders (hr.mono (by omega)) (by rfl) (pa_cons (pv 3) pa_nil))))) pa_nil)) (pe_callB call_lenS (by rfl) T.b_len bt_len (pa_cons (pe_df h_law_turns (hr.mono (by omega)) (by rfl) (pa_cons (pv 2) pa_nil)) pa_nil)) (nomark _)) (pss_one (ps_ret pe_bl)) pss_nil)
    (pss_cons (ps_for PassesOwn.never rfl (pi_range1 (by rfl) T.b_range (pa_cons pe_int pa_nil)) (pg_name (i := 4) sclaw.nd rfl (by first | exact Or.inl rfl | exact Or.inr rfl))
      (pss_cons (ps_set (i := 2) sclaw.nd rfl (by first | exact Or.inl rfl | exact Or.inr rfl) (pe_df h_law_next (hr.mono (by omega)) (by rfl) (pa_cons (pv 1) (pa_cons pe_int pa_nil))))
    (pss_cons (ps_asg (pe_tup (pa_cons (pe_listRg rfl (by rfl) T.b_list (prg_1 (by rfl) T.b_range (pv 2))) (pa_cons (pe_lst pa_nil) pa_nil))) (pg_tup rfl (pgs_cons (pg_name (i := 5) sclaw.nd rfl (by first | exact Or.inl rfl | exact Or.inr rfl)) (pgs_cons (pg_name (i := 6) sclaw.nd rfl (by first | exact Or.inl rfl | exact Or.inr rfl)) pgs_nil))))
    (pss_cons (ps_while PassesOwn.never (pt_cmpR (op_neU (hr.units)) (pv 5) (pe_lst pa_nil) (nomark _)) (pss_one (ps_expr (pe_bm PySem.F.plainAttrs_list PySem.F.slot_list_append PySem.F.type_list_append mt_append (pv 6) (pa_cons (pe_bm PySem.F.plainAttrs_list PySem.F.slot_list_pop PySem.F.type_list_pop mt_popAt (pv 5) (pa_cons (pe_df h_law_next (hr.mono (by omega)) (by rfl) (pa_cons (pv 1) (pa_cons (pe_callB call_lenS (by rfl) T.b_len bt_len (pa_cons (pv 5) pa_nil)) pa_nil))) pa_nil)) pa_nil)))))
    (pss_cons (ps_set (i := 7) sclaw.nd rfl (by first | exact Or.inl rfl | exact Or.inr rfl) (pe_callTy call_tupS (by rfl) T.b_tuple bt_tuple (pa_cons (pe_lc (own := [("k", 8)]) (g := (gName 8)) (tt := tYes) (te := (tBM K "list" (rIndex K) (tVar 6) (tCons (tVar 8) tNil))) rfl sclaw.nd (pi_range1 (by rfl) T.b_range (pa_cons (pv 2) pa_nil)) (blkOk_by (by kernel_rfl)) (fun _ _ _ _ _ => (pg_name (i := 8) sclaw.nd rfl (by first | exact Or.inl rfl | exact Or.inr rfl))) (fun _ _ _ _ _ => pts_nil) (fun _ _ _ _ _ => (pe_bm PySem.F.plainAttrs_list PySem.F.slot_list_index PySem.F.type_list_index mt_index (pv 6) (pa_cons (pv 8) pa_nil)))) pa_nil)))
    (pss_cons (ps_par (i := 9) (j := 10) rfl sclaw.nd rfl rfl (by decide) rfl rfl (pa_cons (pe_df hpair_of (hr.mono (by omega)) (by rfl) (pa_cons (pe_callTy call_tupS (by rfl) T.b_tuple bt_tuple (pa_cons (pv 6) pa_nil)) pa_nil)) (pa_cons (pe_df hpair_of (hr.mono (by omega)) (by rfl) (pa_cons (pv 7) pa_nil)) pa_nil)) (by rfl))
    (pss_cons (ps_if (PW.pt (pw_or (pt_not (pt_tr (pe_df h_law_same (hr.mono (by omega)) (by rfl) (pa_cons (pv 9) (pa_cons (pe_tup (pa_cons (pe_ix ix_seq (pv 10) pe_int (fun _ _ => rfl)) (pa_cons (pe_ix ix_seq (pv 10) pe_int (fun _ _ => rfl)) pa_nil))) pa_nil))))) (pw_or1 (pt_not (pt_tr (pe_df h_law_same (hr.mono (by omega)) (by rfl) (pa_cons (pe_df hword_of (hr.mono (by omega)) (by rfl) (pa_cons (pe_ix ix_seq (pv 9) pe_int (fun _ _ => rfl)) (pa_cons (pe_ix ix_seq (pv 9) pe_int (fun _ _ => rfl)) pa_nil))) (pa_cons (pv 7) pa_nil)))))))) (pss_one (ps_ret pe_bl)) pss_nil)
    (pss_cons (ps_set (i := 11) sclaw.nd rfl (by first | exact Or.inl rfl | exact Or.inr rfl) (pe_callTy call_tupS (by rfl) T.b_tuple bt_tuple (pa_cons (pe_lc (own := [("k", 8)]) (g := (gName 8)) (tt := tYes) (te := (tCall _ [] E0 (tCons (tVar 1) (tCons (tC (.int 4)) tNil)))) rfl sclaw.nd (pi_range1 (by rfl) T.b_range (pa_cons (pe_df h_law_next (hr.mono (by omega)) (by rfl) (pa_cons (pv 1) (pa_cons pe_int pa_nil))) pa_nil)) (blkOk_by (by kernel_rfl)) (fun _ _ _ _ _ => (pg_name (i := 8) sclaw.nd rfl (by first | exact Or.inl rfl | exact Or.inr rfl))) (fun _ _ _ _ _ => pts_nil) (fun _ _ _ _ _ => (pe_df h_law_next (hr.mono (by omega)) (by rfl) (pa_cons (pv 1) (pa_cons pe_int pa_nil))))) pa_nil)))
    (pss_cons (ps_set (i := 12) sclaw.nd rfl (by first | exact Or.inl rfl | exact Or.inr rfl) (pe_df htableau_of (hr.mono (by omega)) (by rfl) (pa_cons (pv 11) pa_nil)))
    (pss_cons (ps_if (PW.pt (pw_or (pt_cmpR (op_neU (hr.units)) (pe_callB call_lenS (by rfl) T.b_len bt_len (pa_cons (pv 12) pa_nil)) (pe_df h_law_longest (hr.mono (by omega)) (by rfl) (pa_cons (pv 11) (pa_cons pe_bl pa_nil))) (nomark _)) (pw_or1 (pt_cmpR (op_neU (hr.units)) (pe_ifExp (pt_cmpR (op_neU (hr.units)) (pv 12) (pe_tup pa_nil) (nomark _)) (pe_callB call_lenS (by rfl) T.b_len bt_len (pa_cons (pe_ix ix_seq (pv 12) pe_int (fun _ _ => rfl)) pa_nil)) pe_int) (pe_df h_law_longest (hr.mono (by omega)) (by rfl) (pa_cons (pv 11) (pa_cons pe_bl pa_nil))) (nomark _))))) (pss_one (ps_ret pe_bl)) pss_nil)
    (pss_cons (ps_if (pt_not (pt_tr (pe_df h_law_same (hr.mono (by omega)) (by rfl) (pa_cons (pe_df hcount_words (hr.mono (by omega)) (by rfl) (pa_cons (pv 12) pa_nil)) (pa_cons (pe_df hcount_orders (hr.mono (by omega)) (by rfl) (pa_cons (pe_callTy call_tupS (by rfl) T.b_tuple bt_tuple (pa_cons (pe_lc (own := [("row", 13)]) (g := (gName 13)) (tt := tYes) (te := (tCB (rLenS K) (tCons (tVar 13) tNil))) rfl sclaw.nd (pi_tup (pv 12)) (blkOk_by (by kernel_rfl)) (fun _ _ _ _ _ => (pg_name (i := 13) sclaw.nd rfl (by first | exact Or.inl rfl | exact Or.inr rfl))) (fun _ _ _ _ _ => pts_nil) (fun _ _ _ _ _ => (pe_callB call_lenS (by rfl) T.b_len bt_len (pa_cons (pv 13) pa_nil)))) pa_nil)) pa_nil)) pa_nil))))) (pss_one (ps_ret pe_bl)) pss_nil)
    (pss_cons (ps_set (i := 14) sclaw.nd rfl (by first | exact Or.inl rfl | exact Or.inr rfl) (pe_callTy call_tupS (by rfl) T.b_tuple bt_tuple (pa_cons (pe_lc (own := [("k", 8)]) (g := (gName 8)) (tt := (tTest (tOp rLtI (tVar 8) (tC (.int 5))))) (te := (tVar 8)) rfl sclaw.nd (pi_list (pv 6)) (blkOk_by (by kernel_rfl)) (fun _ _ _ _ _ => (pg_name (i := 8) sclaw.nd rfl (by first | exact Or.inl rfl | exact Or.inr rfl))) (fun _ _ _ _ _ => (pts_one (pt_cmpR op_lt (pv 8) pe_int (nomark _)))) (fun _ _ _ _ _ => (pv 8))) pa_nil)))
    (pss_one (ps_if (pt_cmpR (op_neU (hr.units)) (pe_df hcount_words (hr.mono (by omega)) (by rfl) (pa_cons (pe_df htableau_of (hr.mono (by omega)) (by rfl) (pa_cons (pv 14) pa_nil)) pa_nil)) (pe_callB call_lenS (by rfl) T.b_len bt_len (pa_cons (pe_lc (own := [("q", 15)]) (g := (gName 15)) (tt := (tTest (tOp (rEqU K) (tCall _ [] E0 (tCons (tVar 15) tNil)) (tCall _ [] E0 (tCons (tVar 14) tNil))))) (te := (tVar 15)) rfl sclaw.nd (pi_list (pe_df h_law_turns (hr.mono (by omega)) (by rfl) (pa_cons (pe_callB call_lenS (by rfl) T.b_len bt_len (pa_cons (pv 14) pa_nil)) pa_nil))) (blkOk_by (by kernel_rfl)) (fun _ _ _ _ _ => (pg_name (i := 15) sclaw.nd rfl (by first | exact Or.inl rfl | exact Or.inr rfl))) (fun _ _ _ _ _ => (pts_one (pt_cmpR (op_eqU (hr.units)) (pe_df htableau_of (hr.mono (by omega)) (by rfl) (pa_cons (pv 15) pa_nil)) (pe_df htableau_of (hr.mono (by omega)) (by rfl) (pa_cons (pv 14) pa_nil)) (nomark _)))) (fun _ _ _ _ _ => (pv 15))) pa_nil)) (nomark _)) (pss_one (ps_ret pe_bl)) pss_nil))))))))))))))
    (pss_one (ps_ret pe_bl)))))), ?_⟩
  refine Cm.law_start hS h63 (by omega) (by omega) q fun pw => ?_
  show SV (Cm.Ww pw) _ [.d (.raw (.ref a)), .d (Cm.rw pw), .no, .no, .no, .no, .no, .no, .no, .no, .no, .no, .no, .no, .no, .no] _
  refine sv_setn (Cm.dn_next rfl ed_int (by omega)) fun x hx => ?_
  obtain ⟨n, rfl, hn0, hn7⟩ := hx
  obtain ⟨n, rfl⟩ := Int.eq_ofNat_of_zero_le hn0
  have hn : n < 7 := by omega
  obtain ⟨s1, s2, s3⟩ := sh7_ok hn
  -- the squares of the numbers of orders
  refine sv_ifs (b := false) ((et_test (ed_neI (ed_sumL (ns := (shapes 7 n n).map fun p => ordersI p * ordersI p) ((el_map (l := shapes 7 n n) (enc := dR) (f := fun p => D.int (ordersI p * ordersI p)) (wd_lst (el_G (ea_cons (ed_var rfl) (ea_cons (ed_var rfl) an_nil)) ⟨n, n, rfl, hn, by omega, by omega, rfl⟩)) (fun p hp => ed_mul (ed_G (ea_cons (ed_var rfl) an_nil) ⟨p, rfl, s1 p hp, rfl⟩) (ed_G (ea_cons (ed_var rfl) an_nil) ⟨p, rfl, s1 p hp, rfl⟩) ?_) ?_).to ?_).er) (ed_lenL (el_G (ea_cons (ed_var rfl) an_nil) ⟨n, rfl, hn, by omega, rfl⟩).er))).to ?_) (fun h => by cases h) fun _ => sv_skip ?_
  · have := s2 p hp
    exact wide_mul (a := 16) (b := 16) this this (by omega) (by omega) (by omega)
  · have := (shapes_sz 7 (by omega) n (by omega) n (by omega)).1
    omega
  · rw [List.map_map]; rfl
  · rw [List.length_map, ← s3]
    simp
  have same : ∀ {Γ : List AV} {ta tb : TE} {x : D}, ED (Cm.Ww pw) ta Γ x → ED (Cm.Ww pw) tb Γ x → Cm.lvl x < 10 → Cm.okS x = true → ET (Cm.Ww pw) (tNot (tTr K (tCall (spG (Cm.RSame 10)) [] E0 (tCons ta (tCons tb tNil))))) Γ false := fun h1 h2 h3 h4 =>
    (et_not (et_trD (ed_G (y := .bl true) (ea_cons h1 (ea_cons h2 an_nil)) ⟨_, rfl, h3, h4, rfl⟩) (fun _ h => by cases h) fun _ h => by cases h)).to rfl
  -- four turns
  refine sv_for (is := [4]) (fun i Γ1 => ∃ (b2 b3 b4 b5 b6 b7 b8 b9 b10 b11 b12 b13 b14 b15 : AV), Γ1 = [.d (.raw (.ref a)), .d (Cm.rw pw), b2, b3, b4, b5, b6, b7, b8, b9, b10, b11, b12, b13, b14, b15])
    (wd_rng1 (ea_cons ed_int an_nil) (by omega) (by omega)) ⟨_, _, _, _, _, _, _, _, _, _, _, _, _, _, rfl⟩ ?_ ?_
  · rintro i x Γ1 hx ⟨b2, b3, b4, b5, b6, b7, b8, b9, b10, b11, b12, b13, b14, b15, rfl⟩
    clear hn hn0 hn7 s1 s2 s3 n
    refine ⟨_, gd_name, ?_⟩
    refine sv_setn (Cm.dn_next rfl ed_int (by omega)) fun x hx => ?_
    obtain ⟨n, rfl, hn0, hn7⟩ := hx
    obtain ⟨n, rfl⟩ := Int.eq_ofNat_of_zero_le hn0
    have hn : n < 7 := by omega
    refine sv_par2L (i := 5) (j := 6) (ds := (List.range n).map dI) (es := []) (by decide) ((el_lstRg1 (ed_var rfl) (by omega) (by omega)).to (by rw [Int.toNat_natCast, rangeD0])) (el_lst an_nil (by show 0 ≤ 100000; omega)) ?_
    refine sv_while (fun m Γ1 => ∃ (left p : List Nat) (c4 : AV), m = left.length ∧ Γ1 = [.d (.raw (.ref a)), .d (Cm.rw pw), .d (dI n), b3, c4, .l (left.map dI), .l (p.map dI), b7, b8, b9, b10, b11, b12, b13, b14, b15] ∧ left.length + p.length = n ∧ ∀ q ∈ pops left.length left, p ++ q ∈ pops n (List.range n))
      (m := n) ⟨List.range n, [], _, by simp, rfl, by simp, by simp⟩ ?_
    rintro m Γ1 ⟨left, p, c4, rfl, rfl, hlp, hpops⟩
    refine ⟨_, et_neNil rfl (list_fine left), fun hb => ?_, fun hb => ?_⟩
    · have hne : 0 < left.length := by
        cases left with
        | nil => cases hb
        | cons x r => simp
      refine sv_end (sv_appPop (i := 6) (j := 5) (by decide) rfl rfl ((Cm.dn_next rfl (ed_lenL (er_var rfl)) (by simpa using hne))) (by rw [List.length_map]; omega) (by rw [List.length_map]; omega) fun k x hk => ?_)
      obtain ⟨x, hx, rfl⟩ : ∃ y, left[k]? = some y ∧ dI y = x := by simpa using hk
      have hkl := lt_of_get hx
      have hel : (left.eraseIdx k).length + 1 = left.length := by rw [List.length_eraseIdx, if_pos hkl]; omega
      refine sv_next ⟨(left.eraseIdx k).length, by omega, left.eraseIdx k, p ++ [x], c4, rfl, ?_, by simp only [List.length_append, List.length_singleton]; omega, fun q hq => ?_⟩
      · show [_, _, _, _, _, AV.l ((left.map dI).eraseIdx k), AV.l (p.map dI ++ [dI x]), _, _, _, _, _, _, _, _, _] = [_, _, _, _, _, _, _, _, _, _, _, _, _, _, _, _]
        rw [erase_map, List.map_append]
        rfl
      · rw [List.append_assoc]
        refine hpops _ ?_
        rw [← hel]
        exact pops_step hx hq
    · have hl0 : left = [] := by
        cases left with
        | nil => rfl
        | cons x r => cases hb
      subst hl0
      have hp : p ∈ pops n (List.range n) := by
        have := hpops [] (by simp [pops])
        rwa [List.append_nil] at this
      have ok := turnOk_of hn hp
      clear hpops hb hlp
      -- back
      refine sv_set (x := dR (backOf p)) ((ed_tupR (el_map (l := List.range n) (enc := dI) (f := fun k => dI (p.findIdx (· == k))) ?_ (fun k hk => ?_) (by simp; omega)).er).to (by unfold backOf; rw [ok.len]; show D.tup _ = D.tup (List.map dI (List.map _ _)); rw [List.map_map]; rfl)) ?_
      · have := wd_rng1 (W := Cm.Ww pw) (Γ := [.d (.raw (.ref a)), .d (Cm.rw pw), .d (dI n), b3, c4, .l (([] : List Nat).map dI), .l (p.map dI), b7, b8, b9, b10, b11, b12, b13, b14, b15]) (j := (n : Int)) (ea_cons (ed_var (i := 2) rfl) an_nil) (by omega) (by omega)
        rw [Int.toNat_natCast, rangeD0] at this
        exact this
      · have hk' := List.mem_range.mp hk
        refine ed_index (ns := p.map fun (n : Nat) => (n : Int)) ((er_var rfl).to (map_ints p)) (ed_var rfl) (by rw [List.getElem?_map, ok.ix k hk']; rfl) fun m hm => ?_
        rw [List.getElem?_map]
        intro he
        obtain ⟨y, hy, e⟩ : ∃ y, p[m]? = some y ∧ ((y : Nat) : Int) = (k : Int) := by simpa using he
        have e : y = k := by omega
        subst e
        have := List.not_of_lt_findIdx hm
        rw [List.getElem?_eq_some_iff] at hy
        obtain ⟨h1, h2⟩ := hy
        simp [h2] at this
      -- one, other
      refine sv_par (x := .tup [dT (pairOf p).1, dT (pairOf p).2]) (y := .tup [dT (pairOf (backOf p)).1, dT (pairOf (backOf p)).2]) (ea_cons (ed_G (ea_cons (ed_tupR (er_var rfl)) an_nil) ⟨p, rfl, by have := ok.len; omega, rfl⟩) (ea_cons (ed_G (ea_cons (ed_var rfl) an_nil) ⟨backOf p, rfl, by have := ok.len; simp [backOf]; omega, rfl⟩) an_nil)) ?_
      have hbp : pairOf (backOf p) = ((pairOf p).2, (pairOf p).1) := by rw [ok.pair]
      rw [hbp]
      refine sv_ifs (b := false) ((et_or (same (x := .tup [dT (pairOf p).1, dT (pairOf p).2]) (ed_var rfl) (ed_tup (ea_cons (ed_ixT (ed_var rfl) ed_int at1) (ea_cons (ed_ixT (ed_var rfl) ed_int at0) an_nil)) (by simp)) ?_ ?_) fun _ => same (x := dR (backOf p)) (ed_G (ea_cons (ed_ixT (ed_var rfl) ed_int at1) (ea_cons (ed_ixT (ed_var rfl) ed_int at0) an_nil)) ⟨_, _, _, rfl, ok.l2, ok.l12, ok.r2, ok.r1, ok.sum, ok.word, rfl⟩) (ed_var rfl) ?_ ?_).to rfl) (fun h => by cases h) fun _ => sv_skip ?_
      · exact pair_lvl _ _
      · exact pair_okS (okS_T (by have := ok.l1; omega) fun r hr => by have := ok.r1 r hr; omega) (okS_T (by have := ok.l2; omega) fun r hr => by have := ok.r2 r hr; omega)
      · have := lvl_R (backOf p)
        omega
      · exact okS_R (by have := ok.len; simp [backOf]; omega)
      -- the word
      refine sv_setn (P := fun y => ∃ v : List Nat, y = dR v ∧ v.length < 9) (dn_tupL (ln_rngN (m := 9) (Cm.dn_next rfl ed_int (by omega)) (by omega) fun k => Cm.dn_next (m := 4) rfl ed_int (by omega)) fun es h => ?_) fun y hy => ?_
      · obtain ⟨h1, h2⟩ := h
        obtain ⟨v, rfl⟩ := maps_nat h2
        rw [List.length_map] at h1
        exact ⟨v, rfl, by omega⟩
      obtain ⟨v, rfl, hv⟩ := hy
      refine sv_set (x := dT (tab v)) (ed_G (ea_cons (ed_var rfl) an_nil) ⟨v, rfl, by omega, rfl⟩) ?_
      have htl : (tab v).length ≤ 8 := by have := (tab_szL v).1; omega
      refine sv_ifs (b := false) ((et_or (a := false) (b := false) ((et_test (ed_neI ((ed_lenT (ed_var rfl)).to (y := dI (tab v).length) (by simp)) (ed_G (y := dI (longest true v)) (ea_cons (ed_var rfl) (ea_cons ed_bl an_nil)) ⟨v, true, rfl, by omega, rfl⟩))).to (by rw [rows_longest]; simp)) fun _ => (et_test (ed_neI (i := (longest false v : Nat)) (ed_if (b := !decide (tab v = [])) ((et_test (ed_ne (ed_var rfl) (ed_tup an_nil (by show 0 ≤ 100000; omega)) (dT_fine _) rfl)).to (by rw [dT_nil])) (fun hb => ?_) fun hb => ed_int.to ?_) (ed_G (y := dI (longest false v)) (ea_cons (ed_var rfl) (ea_cons ed_bl an_nil)) ⟨v, false, rfl, by omega, rfl⟩))).to (by simp)).to rfl) (fun h => by cases h) fun _ => sv_skip ?_
      · have hr := row_longest v
        cases e : tab v with
        | nil => rw [e] at hb; simp at hb
        | cons r t =>
          rw [e] at hr
          refine (ed_lenT (ds := r.map dI) (ed_ixT (ds := (r :: t).map dR) (ed_var rfl) ed_int at0)).to ?_
          rw [List.length_map, ← hr]
          rfl
      · have hr := row_longest v
        have e : tab v = [] := by simpa using hb
        rw [e] at hr
        rw [← hr]
        rfl
      have shv := sh9_ok (n := v.length) (by omega) (tab_shape v (by omega))
      refine sv_ifs (b := false) (same (x := .int (ordersI (shape (tab v)))) (ed_G (ea_cons (ed_var rfl) an_nil) ⟨tab v, rfl, by omega, shv, rfl⟩) (ed_G (ea_cons ((ed_tupR (el_map (l := tab v) (enc := dR) (f := fun r => dI r.length) (wd_tup (ed_var rfl)) (fun r hr => (ed_lenT (ed_var rfl)).to (by simp)) (by omega)).er).to (y := dR (shape (tab v))) (by show D.tup _ = D.tup (List.map dI (List.map _ _)); rw [List.map_map]; rfl)) an_nil) ⟨_, rfl, shv, rfl⟩) (by simp only [Cm.lvl]; omega) rfl) (fun h => by cases h) fun _ => sv_skip ?_
      -- small
      refine sv_set (x := dR (smallOf p)) ((ed_tupR (el_filV (l := p) (enc := dI) (b := fun k => decide (k < 5)) (f := dI) (i := 8) (i0 := 6) rfl (fun k hk => (et_test (ed_lt (ed_var rfl) ed_int)).to (by simp only [decide_eq_decide]; omega)) (fun k hk _ => ed_var rfl) (by have := ok.len; omega)).er).to rfl) ?_
      have sml := ok.sl
      have htq : ∀ {q : List Nat}, q ∈ turns (smallOf p).length → q.length ≤ 6 := fun hq => by
        have := (turns_sz _ (by omega)).2 _ hq
        omega
      have hts : (tab (smallOf p)).length ≤ 6 := by have := (tab_szL (smallOf p)).1; omega
      refine sv_end (sv_ifs (b := false) ((et_test (ed_neI (i := ordersI (shape (tab (smallOf p)))) (ed_G (ea_cons (ed_G (ea_cons (ed_var rfl) an_nil) ⟨smallOf p, rfl, by omega, rfl⟩) an_nil) ⟨tab (smallOf p), rfl, by omega, ok.sm.sh, rfl⟩) ((ed_lenL (el_fil (l := turns (smallOf p).length) (enc := dR) (b := fun q => Deq (dT (tab q)) (dT (tab (smallOf p)))) (f := dR) (wd_lst (el_G (ea_cons ((ed_lenT (ed_var rfl)).to (y := dI (smallOf p).length) (by simp)) an_nil) ⟨_, rfl, by omega, by omega, rfl⟩)) (fun q hq => et_test (ed_eq (ed_G (ea_cons (ed_var rfl) an_nil) ⟨q, rfl, by have := htq hq; omega, rfl⟩) (ed_G (ea_cons (ed_var rfl) an_nil) ⟨smallOf p, rfl, by omega, rfl⟩) (dT_fine _) (dT_fine _))) (fun q hq _ => ed_var rfl) (by have := (turns_sz (smallOf p).length (by omega)).1; omega)).er).to (y := .int (ordersI (shape (tab (smallOf p))))) (by rw [List.length_map, ok.sm.eq])))).to (by simp)) (fun h => by cases h) fun _ => sv_next ⟨_, _, _, _, _, _, _, _, _, _, _, _, _, _, rfl⟩)
  · rintro Γ1 ⟨b2, b3, b4, b5, b6, b7, b8, b9, b10, b11, b12, b13, b14, b15, rfl⟩
    exact sv_ret ed_bl rfl
end
end Ta

set_option Elab.async false
set_option maxRecDepth 100000
set_option linter.unusedVariables false
set_option maxHeartbeats 4000000
namespace Ta
open PySem L2 Ly K51
theorem all_mk {l : PySem.W.OpenLaw} {w : World} {K : PySem.W.Frag} {h : Heap} {mg : Str → Option Value} {fa f0 f1 f2 f3 f4 f5 f6 f7 f8 f9 f10 f11 f12 f13 f14 f15 f16 f17 : Addr} (X : K.In h) (G : h.Ns mainGlobals mg) (hfa : mg "law" = some (.ref fa))
    {od0 an0 od1 an1 od2 an2 od3 an3 od4 an4 od5 an5 od6 an6 od7 an7 od8 an8 od9 an9 od10 an10 od11 an11 od12 an12 od13 an13 od14 an14 od15 an15 od16 an16 od17 an17 : Option Addr} {sl0 sl1 sl2 sl3 sl4 sl5 sl6 sl7 sl8 sl9 sl10 sl11 sl12 sl13 sl14 sl15 sl16 sl17 : Array (Option Value)} {oc0 kV0 dc0 pm0 cd0 ct0 oc1 kV1 dc1 pm1 cd1 ct1 oc2 kV2 dc2 pm2 cd2 ct2 oc3 kV3 dc3 pm3 cd3 ct3 oc4 kV4 dc4 pm4 cd4 ct4 oc5 kV5 dc5 pm5 cd5 ct5 oc6 kV6 dc6 pm6 cd6 ct6 oc7 kV7 dc7 pm7 cd7 ct7 oc8 kV8 dc8 pm8 cd8 ct8 oc9 kV9 dc9 pm9 cd9 ct9 oc10 kV10 dc10 pm10 cd10 ct10 oc11 kV11 dc11 pm11 cd11 ct11 oc12 kV12 dc12 pm12 cd12 ct12 oc13 kV13 dc13 pm13 cd13 ct13 oc14 kV14 dc14 pm14 cd14 ct14 oc15 kV15 dc15 pm15 cd15 ct15 oc16 kV16 dc16 pm16 cd16 ct16 oc17 kV17 dc17 pm17 cd17 ct17 : Value}
    (a0 : PySem.W.nsIn K mainGlobals "product_of" = some (some (.ref f0))) (l0 : K.lookup f0 = some ⟨oc0, od0, .func (PySem.W.fnOf "product_of" "product_of" (defArgs sproduct_of) (defBody sproduct_of) (defScope sproduct_of) .none kV0 dc0 pm0 an0 cd0 ct0), sl0⟩) (c0 : PySem.W.codeIn K cd0 "product_of" = true) (k0 : PySem.W.keepIn K (.ref f0) = true)
    (a1 : PySem.W.nsIn K mainGlobals "factorial" = some (some (.ref f1))) (l1 : K.lookup f1 = some ⟨oc1, od1, .func (PySem.W.fnOf "factorial" "factorial" (defArgs sfactorial) (defBody sfactorial) (defScope sfactorial) .none kV1 dc1 pm1 an1 cd1 ct1), sl1⟩) (c1 : PySem.W.codeIn K cd1 "factorial" = true) (k1 : PySem.W.keepIn K (.ref f1) = true)
    (a2 : PySem.W.nsIn K mainGlobals "over" = some (some (.ref f2))) (l2 : K.lookup f2 = some ⟨oc2, od2, .func (PySem.W.fnOf "over" "over" (defArgs sover) (defBody sover) (defScope sover) .none kV2 dc2 pm2 an2 cd2 ct2), sl2⟩) (c2 : PySem.W.codeIn K cd2 "over" = true) (k2 : PySem.W.keepIn K (.ref f2) = true)
    (a3 : PySem.W.nsIn K mainGlobals "put_in" = some (some (.ref f3))) (l3 : K.lookup f3 = some ⟨oc3, od3, .func (PySem.W.fnOf "put_in" "put_in" (defArgs sput_in) (defBody sput_in) (defScope sput_in) .none kV3 dc3 pm3 an3 cd3 ct3), sl3⟩) (c3 : PySem.W.codeIn K cd3 "put_in" = true) (k3 : PySem.W.keepIn K (.ref f3) = true)
    (a4 : PySem.W.nsIn K mainGlobals "_put_in" = some (some (.ref f4))) (l4 : K.lookup f4 = some ⟨oc4, od4, .func (PySem.W.fnOf "_put_in" "_put_in" (defArgs s_put_in) (defBody s_put_in) (defScope s_put_in) .none kV4 dc4 pm4 an4 cd4 ct4), sl4⟩) (c4 : PySem.W.codeIn K cd4 "_put_in" = true) (k4 : PySem.W.keepIn K (.ref f4) = true)
    (a5 : PySem.W.nsIn K mainGlobals "tableau_of" = some (some (.ref f5))) (l5 : K.lookup f5 = some ⟨oc5, od5, .func (PySem.W.fnOf "tableau_of" "tableau_of" (defArgs stableau_of) (defBody stableau_of) (defScope stableau_of) .none kV5 dc5 pm5 an5 cd5 ct5), sl5⟩) (c5 : PySem.W.codeIn K cd5 "tableau_of" = true) (k5 : PySem.W.keepIn K (.ref f5) = true)
    (a6 : PySem.W.nsIn K mainGlobals "shape_of" = some (some (.ref f6))) (l6 : K.lookup f6 = some ⟨oc6, od6, .func (PySem.W.fnOf "shape_of" "shape_of" (defArgs sshape_of) (defBody sshape_of) (defScope sshape_of) .none kV6 dc6 pm6 an6 cd6 ct6), sl6⟩) (c6 : PySem.W.codeIn K cd6 "shape_of" = true) (k6 : PySem.W.keepIn K (.ref f6) = true)
    (a7 : PySem.W.nsIn K mainGlobals "count_orders" = some (some (.ref f7))) (l7 : K.lookup f7 = some ⟨oc7, od7, .func (PySem.W.fnOf "count_orders" "count_orders" (defArgs scount_orders) (defBody scount_orders) (defScope scount_orders) .none kV7 dc7 pm7 an7 cd7 ct7), sl7⟩) (c7 : PySem.W.codeIn K cd7 "count_orders" = true) (k7 : PySem.W.keepIn K (.ref f7) = true)
    (a8 : PySem.W.nsIn K mainGlobals "count_words" = some (some (.ref f8))) (l8 : K.lookup f8 = some ⟨oc8, od8, .func (PySem.W.fnOf "count_words" "count_words" (defArgs scount_words) (defBody scount_words) (defScope scount_words) .none kV8 dc8 pm8 an8 cd8 ct8), sl8⟩) (c8 : PySem.W.codeIn K cd8 "count_words" = true) (k8 : PySem.W.keepIn K (.ref f8) = true)
    (a9 : PySem.W.nsIn K mainGlobals "pair_of" = some (some (.ref f9))) (l9 : K.lookup f9 = some ⟨oc9, od9, .func (PySem.W.fnOf "pair_of" "pair_of" (defArgs spair_of) (defBody spair_of) (defScope spair_of) .none kV9 dc9 pm9 an9 cd9 ct9), sl9⟩) (c9 : PySem.W.codeIn K cd9 "pair_of" = true) (k9 : PySem.W.keepIn K (.ref f9) = true)
    (a10 : PySem.W.nsIn K mainGlobals "word_of" = some (some (.ref f10))) (l10 : K.lookup f10 = some ⟨oc10, od10, .func (PySem.W.fnOf "word_of" "word_of" (defArgs sword_of) (defBody sword_of) (defScope sword_of) .none kV10 dc10 pm10 an10 cd10 ct10), sl10⟩) (c10 : PySem.W.codeIn K cd10 "word_of" = true) (k10 : PySem.W.keepIn K (.ref f10) = true)
    (a11 : PySem.W.nsIn K mainGlobals "_law_draws" = some (some (.ref f11))) (l11 : K.lookup f11 = some ⟨oc11, od11, .func (PySem.W.fnOf "_law_draws" "_law_draws" (defArgs s_law_draws) (defBody s_law_draws) (defScope s_law_draws) .none kV11 dc11 pm11 an11 cd11 ct11), sl11⟩) (c11 : PySem.W.codeIn K cd11 "_law_draws" = true) (k11 : PySem.W.keepIn K (.ref f11) = true)
    (a12 : PySem.W.nsIn K mainGlobals "_law_next" = some (some (.ref f12))) (l12 : K.lookup f12 = some ⟨oc12, od12, .func (PySem.W.fnOf "_law_next" "_law_next" (defArgs s_law_next) (defBody s_law_next) (defScope s_law_next) .none kV12 dc12 pm12 an12 cd12 ct12), sl12⟩) (c12 : PySem.W.codeIn K cd12 "_law_next" = true) (k12 : PySem.W.keepIn K (.ref f12) = true)
    (a13 : PySem.W.nsIn K mainGlobals "_law_same" = some (some (.ref f13))) (l13 : K.lookup f13 = some ⟨oc13, od13, .func (PySem.W.fnOf "_law_same" "_law_same" (defArgs s_law_same) (defBody s_law_same) (defScope s_law_same) .none kV13 dc13 pm13 an13 cd13 ct13), sl13⟩) (c13 : PySem.W.codeIn K cd13 "_law_same" = true) (k13 : PySem.W.keepIn K (.ref f13) = true)
    (a14 : PySem.W.nsIn K mainGlobals "_law_shapes" = some (some (.ref f14))) (l14 : K.lookup f14 = some ⟨oc14, od14, .func (PySem.W.fnOf "_law_shapes" "_law_shapes" (defArgs s_law_shapes) (defBody s_law_shapes) (defScope s_law_shapes) .none kV14 dc14 pm14 an14 cd14 ct14), sl14⟩) (c14 : PySem.W.codeIn K cd14 "_law_shapes" = true) (k14 : PySem.W.keepIn K (.ref f14) = true)
    (a15 : PySem.W.nsIn K mainGlobals "_law_turns" = some (some (.ref f15))) (l15 : K.lookup f15 = some ⟨oc15, od15, .func (PySem.W.fnOf "_law_turns" "_law_turns" (defArgs s_law_turns) (defBody s_law_turns) (defScope s_law_turns) .none kV15 dc15 pm15 an15 cd15 ct15), sl15⟩) (c15 : PySem.W.codeIn K cd15 "_law_turns" = true) (k15 : PySem.W.keepIn K (.ref f15) = true)
    (a16 : PySem.W.nsIn K mainGlobals "_law_longest" = some (some (.ref f16))) (l16 : K.lookup f16 = some ⟨oc16, od16, .func (PySem.W.fnOf "_law_longest" "_law_longest" (defArgs s_law_longest) (defBody s_law_longest) (defScope s_law_longest) .none kV16 dc16 pm16 an16 cd16 ct16), sl16⟩) (c16 : PySem.W.codeIn K cd16 "_law_longest" = true) (k16 : PySem.W.keepIn K (.ref f16) = true)
    (a17 : PySem.W.nsIn K mainGlobals "law" = some (some (.ref f17))) (l17 : K.lookup f17 = some ⟨oc17, od17, .func (PySem.W.fnOf "law" "law" (defArgs slaw) (defBody slaw) (defScope slaw) .none kV17 dc17 pm17 an17 cd17 ct17), sl17⟩) (c17 : PySem.W.codeIn K cd17 "law" = true) (k17 : PySem.W.keepIn K (.ref f17) = true)
    (z0 : PySem.W.nsIn K mainGlobals "abs" = some none)
    (z1 : PySem.W.nsIn K mainGlobals "bool" = some none)
    (z2 : PySem.W.nsIn K mainGlobals "int" = some none)
    (z3 : PySem.W.nsIn K mainGlobals "isinstance" = some none)
    (z4 : PySem.W.nsIn K mainGlobals "len" = some none)
    (z5 : PySem.W.nsIn K mainGlobals "list" = some none)
    (z6 : PySem.W.nsIn K mainGlobals "max" = some none)
    (z7 : PySem.W.nsIn K mainGlobals "min" = some none)
    (z8 : PySem.W.nsIn K mainGlobals "range" = some none)
    (z9 : PySem.W.nsIn K mainGlobals "reversed" = some none)
    (z10 : PySem.W.nsIn K mainGlobals "str" = some none)
    (z11 : PySem.W.nsIn K mainGlobals "sum" = some none)
    (z12 : PySem.W.nsIn K mainGlobals "tuple" = some none)
    : ∃ fd : FuncData, (∀ (s : Shared) (v : Value), BindsTo s fd ⟨[v], []⟩ [("script", v)]) ∧ ∀ base : Heap, K.In base → base.Ns mainGlobals mg → FnOk l.prog w K mg base CX0 20 fa fd ["script"] (Cm.spLaw K) := by
  have e := hfa.symm.trans (PySem.W.mg_of X G a17)
  cases e
  have F_product_of := fun_mk (st := sproduct_of) l0 c0 k0
  have b_product_of := F_product_of.binds (ps := ["numbers"]) fun _ _ _ _ _ _ us hl => match us, hl with | [_], _ => rfl
  have m_product_of := PySem.W.mg_of X G a0
  have F_factorial := fun_mk (st := sfactorial) l1 c1 k1
  have b_factorial := F_factorial.binds (ps := ["n"]) fun _ _ _ _ _ _ us hl => match us, hl with | [_], _ => rfl
  have m_factorial := PySem.W.mg_of X G a1
  have F_over := fun_mk (st := sover) l2 c2 k2
  have b_over := F_over.binds (ps := ["parting"]) fun _ _ _ _ _ _ us hl => match us, hl with | [_], _ => rfl
  have m_over := PySem.W.mg_of X G a2
  have F_put_in := fun_mk (st := sput_in) l3 c3 k3
  have b_put_in := F_put_in.binds (ps := ["tableau", "number"]) fun _ _ _ _ _ _ us hl => match us, hl with | [_, _], _ => rfl
  have m_put_in := PySem.W.mg_of X G a3
  have F__put_in := fun_mk (st := s_put_in) l4 c4 k4
  have b__put_in := F__put_in.binds (ps := ["tableau", "number"]) fun _ _ _ _ _ _ us hl => match us, hl with | [_, _], _ => rfl
  have m__put_in := PySem.W.mg_of X G a4
  have F_tableau_of := fun_mk (st := stableau_of) l5 c5 k5
  have b_tableau_of := F_tableau_of.binds (ps := ["word"]) fun _ _ _ _ _ _ us hl => match us, hl with | [_], _ => rfl
  have m_tableau_of := PySem.W.mg_of X G a5
  have F_shape_of := fun_mk (st := sshape_of) l6 c6 k6
  have b_shape_of := F_shape_of.binds (ps := ["tableau"]) fun _ _ _ _ _ _ us hl => match us, hl with | [_], _ => rfl
  have m_shape_of := PySem.W.mg_of X G a6
  have F_count_orders := fun_mk (st := scount_orders) l7 c7 k7
  have b_count_orders := F_count_orders.binds (ps := ["shape"]) fun _ _ _ _ _ _ us hl => match us, hl with | [_], _ => rfl
  have m_count_orders := PySem.W.mg_of X G a7
  have F_count_words := fun_mk (st := scount_words) l8 c8 k8
  have b_count_words := F_count_words.binds (ps := ["tableau"]) fun _ _ _ _ _ _ us hl => match us, hl with | [_], _ => rfl
  have m_count_words := PySem.W.mg_of X G a8
  have F_pair_of := fun_mk (st := spair_of) l9 c9 k9
  have b_pair_of := F_pair_of.binds (ps := ["word"]) fun _ _ _ _ _ _ us hl => match us, hl with | [_], _ => rfl
  have m_pair_of := PySem.W.mg_of X G a9
  have F_word_of := fun_mk (st := sword_of) l10 c10 k10
  have b_word_of := F_word_of.binds (ps := ["tableau", "order"]) fun _ _ _ _ _ _ us hl => match us, hl with | [_, _], _ => rfl
  have m_word_of := PySem.W.mg_of X G a10
  have F__law_draws := fun_mk (st := s_law_draws) l11 c11 k11
  have b__law_draws := F__law_draws.binds (ps := ["script", "many"]) fun _ _ _ _ _ _ us hl => match us, hl with | [_, _], _ => rfl
  have m__law_draws := PySem.W.mg_of X G a11
  have F__law_next := fun_mk (st := s_law_next) l12 c12 k12
  have b__law_next := F__law_next.binds (ps := ["w", "many"]) fun _ _ _ _ _ _ us hl => match us, hl with | [_, _], _ => rfl
  have m__law_next := PySem.W.mg_of X G a12
  have F__law_same := fun_mk (st := s_law_same) l13 c13 k13
  have b__law_same := F__law_same.binds (ps := ["actual", "due"]) fun _ _ _ _ _ _ us hl => match us, hl with | [_, _], _ => rfl
  have m__law_same := PySem.W.mg_of X G a13
  have F__law_shapes := fun_mk (st := s_law_shapes) l14 c14 k14
  have b__law_shapes := F__law_shapes.binds (ps := ["n", "most"]) fun _ _ _ _ _ _ us hl => match us, hl with | [_, _], _ => rfl
  have m__law_shapes := PySem.W.mg_of X G a14
  have F__law_turns := fun_mk (st := s_law_turns) l15 c15 k15
  have b__law_turns := F__law_turns.binds (ps := ["n"]) fun _ _ _ _ _ _ us hl => match us, hl with | [_], _ => rfl
  have m__law_turns := PySem.W.mg_of X G a15
  have F__law_longest := fun_mk (st := s_law_longest) l16 c16 k16
  have b__law_longest := F__law_longest.binds (ps := ["word", "falls"]) fun _ _ _ _ _ _ us hl => match us, hl with | [_, _], _ => rfl
  have m__law_longest := PySem.W.mg_of X G a16
  have F_law := fun_mk (st := slaw) l17 c17 k17
  have b_law := F_law.binds (ps := ["script"]) fun _ _ _ _ _ _ us hl => match us, hl with | [_], _ => rfl
  have m_law := PySem.W.mg_of X G a17
  have T : Txt mg := ⟨PySem.W.mg_none_of X G z0, PySem.W.mg_none_of X G z1, PySem.W.mg_none_of X G z2, PySem.W.mg_none_of X G z3, PySem.W.mg_none_of X G z4, PySem.W.mg_none_of X G z5, PySem.W.mg_none_of X G z6, PySem.W.mg_none_of X G z7, PySem.W.mg_none_of X G z8, PySem.W.mg_none_of X G z9, PySem.W.mg_none_of X G z10, PySem.W.mg_none_of X G z11, PySem.W.mg_none_of X G z12⟩
  refine ⟨PySem.W.fnOf "law" "law" (defArgs slaw) (defBody slaw) (defScope slaw) .none kV17 dc17 pm17 an17 cd17 ct17, fun s v => .of_eq rfl, fun base _ _ => ?_⟩
  have h_product_of := Cm.df_mk (P := l.prog) (w := w) (base := base) (ok_prod F_product_of) m_product_of k0 b_product_of
  have h_factorial := Cm.df_mk (P := l.prog) (w := w) (base := base) (ok_fac F_factorial T h_product_of) m_factorial k1 b_factorial
  have h_over := Cm.df_mk (P := l.prog) (w := w) (base := base) (ok_over F_over T) m_over k2 b_over
  have h__put_in := Cm.df_mk (P := l.prog) (w := w) (base := base) (ok_put0 F__put_in T) m__put_in k4 b__put_in
  have h_put_in := Cm.df_mk (P := l.prog) (w := w) (base := base) (ok_put F_put_in T h__put_in) m_put_in k3 b_put_in
  have h_tableau_of := Cm.df_mk (P := l.prog) (w := w) (base := base) (ok_tab F_tableau_of T h_put_in) m_tableau_of k5 b_tableau_of
  have h_shape_of := Cm.df_mk (P := l.prog) (w := w) (base := base) (ok_shape F_shape_of T) m_shape_of k6 b_shape_of
  have h_count_orders := Cm.df_mk (P := l.prog) (w := w) (base := base) (ok_count F_count_orders T h_over h_factorial h_product_of) m_count_orders k7 b_count_orders
  have h_count_words := Cm.df_mk (P := l.prog) (w := w) (base := base) (ok_countw F_count_words T h_shape_of h_count_orders) m_count_words k8 b_count_words
  have h_pair_of := Cm.df_mk (P := l.prog) (w := w) (base := base) (ok_pair F_pair_of T h__put_in) m_pair_of k9 b_pair_of
  have h_word_of := Cm.df_mk (P := l.prog) (w := w) (base := base) (ok_word F_word_of T h_shape_of) m_word_of k10 b_word_of
  have h__law_draws := Cm.df_mk (P := l.prog) (w := w) (base := base) (Cm.ok_draws F__law_draws T) m__law_draws k11 b__law_draws
  have h__law_next := Cm.df_mk (P := l.prog) (w := w) (base := base) (Cm.ok_next F__law_next T) m__law_next k12 b__law_next
  have h__law_same := Cm.df_mk (P := l.prog) (w := w) (base := base) (Cm.ok_same F__law_same T m__law_same b__law_same 10) m__law_same k13 b__law_same
  have h__law_shapes := Cm.df_mk (P := l.prog) (w := w) (base := base) (ok_shps F__law_shapes T m__law_shapes b__law_shapes 7 (by omega)) m__law_shapes k14 b__law_shapes
  have h__law_turns := Cm.df_mk (P := l.prog) (w := w) (base := base) (ok_turns F__law_turns T m__law_turns b__law_turns 7) m__law_turns k15 b__law_turns
  have h__law_longest := Cm.df_mk (P := l.prog) (w := w) (base := base) (ok_long F__law_longest T) m__law_longest k16 b__law_longest
  exact ok_law F_law T h__law_draws h__law_next h__law_shapes h__law_turns h__law_same h__law_longest h_count_orders h_count_words h_tableau_of h_pair_of h_word_of
theorem walk {l : PySem.W.OpenLaw} {q : Program} {loose : List Str} {XP : (Str → Option Value) → Heap → Prop} {YP : World → Heap → Prop} {d : DefRec} {K : Params → PySem.W.Frag} (hn : l.most = some 63) (hdf : d.params.defaults = [])
    (hY : ∀ (w : World) (h : Heap), YP w h → (K w.params).In h)
    (F : ∀ (w : World) (mg : Str → Option Value) (fa : Addr) (h : Heap), (K w.params).In h → h.Ns mainGlobals mg → mg d.name = some (.ref fa) →
      ∃ fd : FuncData, (∀ (s : Shared) (u : Value), BindsTo s fd ⟨[u], []⟩ [("script", u)]) ∧ ∀ base : Heap, (K w.params).In base → base.Ns mainGlobals mg → FnOk l.prog w (K w.params) mg base CX0 20 fa fd ["script"] (Cm.spLaw (K w.params))) :
    PySem.W.WalkO q loose XP YP l.row.toRowW d [] (fun f vs => PySem.call f vs) :=
  L2.walk_of (n := 63) (k := 20) (x := "script") (CX := fun _ => CX0) (sp := fun w => Cm.spLaw (K w.params)) hn (by decide) hdf ⟨rfl, by decide, by decide⟩ hY F (fun _ _ a ns hl _ hS => ⟨a, ns, rfl, hS, hl, fun _ => rfl⟩) fun _ _ _ _ _ z => z
end Ta
open PySem PySem.W PyProof.Rows
set_option maxRecDepth 100000 in
set_option maxHeartbeats 0 in
theorem PySem.Challenge.cw_turnwarrant_k51_whole_tableaux_and_their_holds : PySem.Challenge.rw_turnwarrant_k51_whole_tableaux_and_their.Holds := by
  w_on; o_law; k_head; (case hw => w_witness2)
  k_fill
  refine Ta.walk (l := PySem.Challenge.rw_turnwarrant_k51_whole_tableaux_and_their) rfl rfl (fun w h Y => PySem.W.kIn_of Y) ?F
  case F =>
    intro w mg fa h KX G hmg
    refine' Ta.all_mk KX G hmg ?a0 ?l0 ?c0 ?k0 ?a1 ?l1 ?c1 ?k1 ?a2 ?l2 ?c2 ?k2 ?a3 ?l3 ?c3 ?k3 ?a4 ?l4 ?c4 ?k4 ?a5 ?l5 ?c5 ?k5 ?a6 ?l6 ?c6 ?k6 ?a7 ?l7 ?c7 ?k7 ?a8 ?l8 ?c8 ?k8 ?a9 ?l9 ?c9 ?k9 ?a10 ?l10 ?c10 ?k10 ?a11 ?l11 ?c11 ?k11 ?a12 ?l12 ?c12 ?k12 ?a13 ?l13 ?c13 ?k13 ?a14 ?l14 ?c14 ?k14 ?a15 ?l15 ?c15 ?k15 ?a16 ?l16 ?c16 ?k16 ?a17 ?l17 ?c17 ?k17 ?z0 ?z1 ?z2 ?z3 ?z4 ?z5 ?z6 ?z7 ?z8 ?z9 ?z10 ?z11 ?z12
    (case a0 => k_is); (case l0 => k_is); (case c0 => k_is); (case k0 => k_is)
    (case a1 => k_is); (case l1 => k_is); (case c1 => k_is); (case k1 => k_is)
    (case a2 => k_is); (case l2 => k_is); (case c2 => k_is); (case k2 => k_is)
    (case a3 => k_is); (case l3 => k_is); (case c3 => k_is); (case k3 => k_is)
    (case a4 => k_is); (case l4 => k_is); (case c4 => k_is); (case k4 => k_is)
    (case a5 => k_is); (case l5 => k_is); (case c5 => k_is); (case k5 => k_is)
    (case a6 => k_is); (case l6 => k_is); (case c6 => k_is); (case k6 => k_is)
    (case a7 => k_is); (case l7 => k_is); (case c7 => k_is); (case k7 => k_is)
    (case a8 => k_is); (case l8 => k_is); (case c8 => k_is); (case k8 => k_is)
    (case a9 => k_is); (case l9 => k_is); (case c9 => k_is); (case k9 => k_is)
    (case a10 => k_is); (case l10 => k_is); (case c10 => k_is); (case k10 => k_is)
    (case a11 => k_is); (case l11 => k_is); (case c11 => k_is); (case k11 => k_is)
    (case a12 => k_is); (case l12 => k_is); (case c12 => k_is); (case k12 => k_is)
    (case a13 => k_is); (case l13 => k_is); (case c13 => k_is); (case k13 => k_is)
    (case a14 => k_is); (case l14 => k_is); (case c14 => k_is); (case k14 => k_is)
    (case a15 => k_is); (case l15 => k_is); (case c15 => k_is); (case k15 => k_is)
    (case a16 => k_is); (case l16 => k_is); (case c16 => k_is); (case k16 => k_is)
    (case a17 => k_is); (case l17 => k_is); (case c17 => k_is); (case k17 => k_is)
    (case z0 => k_is); (case z1 => k_is); (case z2 => k_is); (case z3 => k_is); (case z4 => k_is); (case z5 => k_is); (case z6 => k_is); (case z7 => k_is); (case z8 => k_is); (case z9 => k_is); (case z10 => k_is); (case z11 => k_is); (case z12 => k_is)
