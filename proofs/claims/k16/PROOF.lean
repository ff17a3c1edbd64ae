import PyProof.Rows.All
import Wide.All
import OpenK.AllK
import Wide.FinOn
import HandS.ForMost
import KE.DatumMoreOrd
import KE.SortData
import KE.DatumIndex
import HandS.Wide
import HandS.Flow
import HandS.IsInst
import HandS.Conv
import HandS.Style
import HandS.Exc
import HandS.WordsExc
import HandS.Defaults
import HandS.HeadHook1
import HandS.HeadHook2
import HandS.ExcInit
import HandS.ExcValue
import HandS.ExcIs
import HandS.ExcField
import HandS.Ends
import HandS.HeadEnd
import PyProof.ReprRoads
import PyProof.ReprLen
import PyProof.StrLawsRepr
import HandS.DeepEq
import HandS.Codes
import KE.KStateDown
import HandS.Head0
import HandS.Head1
import HandS.Head2
import PySem.Challenge.RW_eitherpays_k16_errors_apart
set_option Elab.async false
set_option linter.all false
set_option maxRecDepth 100000
set_option maxHeartbeats 0
/-! GL1: what is known of the heap (G: never changed any more; M: cells of one's own), codecs, what a reading evaluates to. -/
namespace GL
open PySem L2

/-! ### the heap that is known -/
/-- what a walk may lock -/
def lk : HO → Bool
  | .dK _ => true
  | .dT _ => true
  | .frz _ u => lk u
  | _ => false
/-- G' knows what G knows (a dict may be locked, unlocked) -/
def Le (G G' : Hp) : Prop := (∀ b u, G b = some u → lk u = false → G' b = some u) ∧ (∀ b u, lk u = true → Rd G b u → Rd G' b u)
theorem Le.refl (G : Hp) : Le G G := ⟨fun _ _ h _ => h, fun _ _ _ h => h⟩
theorem Le.trans {G G1 G2 : Hp} (a : Le G G1) (b : Le G1 G2) : Le G G2 :=
  ⟨fun x u h z => b.1 x u (a.1 x u h z) z, fun x u z h => b.2 x u z (a.2 x u z h)⟩
theorem Le.of_same {G G' : Hp} (h : Same G G') : Le G G' := ⟨fun b u e _ => h b u e, fun b u _ r => by
  rcases r with r | ⟨o, r⟩
  · exact .inl (h _ _ r)
  · exact .inr ⟨o, h _ _ r⟩⟩
theorem Le.rd {G G' : Hp} (e : Le G G') {b : Addr} {u : HO} (h : Rd G b u) : Rd G' b u := by
  cases z : lk u with
  | true => exact e.2 b u z h
  | false =>
    rcases h with h | ⟨o, h⟩
    · exact .inl (e.1 b u h z)
    · exact .inr ⟨o, e.1 b _ h (by show lk u = false; exact z)⟩
theorem Le.sqL {K : PySem.W.Frag} {G G' : Hp} (e : Le G G') {a : Addr} {xs : List V} (h : SqL K G a xs) : SqL K G' a xs := by
  rcases h with h | h
  · exact .inl (e.rd h)
  · exact .inr h
theorem Le.sqT {K : PySem.W.Frag} {G G' : Hp} (e : Le G G') {a : Addr} {xs : List V} (h : SqT K G a xs) : SqT K G' a xs := by
  rcases h with h | h
  · exact .inl (e.rd h)
  · exact .inr h
theorem Le.tup {G G' : Hp} (e : Le G G') {a : Addr} {xs : List V} (h : G a = some (.tup xs)) : G' a = some (.tup xs) := e.1 a _ h rfl
theorem Le.lst {G G' : Hp} (e : Le G G') {a : Addr} {xs : List V} (h : G a = some (.lst xs)) : G' a = some (.lst xs) := e.1 a _ h rfl
theorem Le.ins {G G' : Hp} (e : Le G G') {a C dx : Addr} {fs : List (Str × V)} (h : G a = some (.ins C dx fs)) : G' a = some (.ins C dx fs) := e.1 a _ h rfl
theorem Le.some {G G' : Hp} (e : Le G G') {a : Addr} {u : HO} (h : G a = some u) : ∃ u', G' a = some u' := by
  cases z : lk u with
  | false => exact ⟨u, e.1 a u h z⟩
  | true =>
    rcases e.2 a u z (.inl h) with q | ⟨o, q⟩
    · exact ⟨_, q⟩
    · exact ⟨_, q⟩
theorem Le.none {G G' : Hp} (e : Le G G') {a : Addr} (h : G' a = none) : G a = none := by
  cases q : G a with
  | none => rfl
  | some u =>
    obtain ⟨u', z⟩ := e.some q
    rw [h] at z
    cases z

/-- the heap H: G is known and stands for good, M are cells of one's own -/
structure Sta (G M H : Hp) : Prop where
  g : Le G H
  m : Same M H
  d : ∀ b o, M b = some o → G b = none
section
variable {G M H G' M' : Hp} {p : Addr} {o u : HO}
theorem Sta.freshG (S : Sta G M H) (h : H p = none) : G p = none := S.g.none h
theorem Sta.freshM (S : Sta G M H) (h : H p = none) : M p = none := S.m.free h
theorem le_new (h : G p = none) : Le G (upd G p o) := Le.of_same fun b u e => by
  rw [upd_ne (ne_of_none e h)]
  exact e
theorem same_new (h : G p = none) : Same G (upd G p o) := fun b u e => by
  rw [upd_ne (ne_of_none e h)]
  exact e
theorem le_upd (e : Le G H) : Le (upd G p o) (upd H p o) := by
  refine ⟨fun b u h z => ?_, fun b u z h => ?_⟩
  · by_cases hb : b = p
    · subst hb; rw [upd_same] at h ⊢; exact h
    · rw [upd_ne hb] at h ⊢; exact e.1 b u h z
  · by_cases hb : b = p
    · subst hb
      rcases h with h | ⟨o', h⟩
      · rw [upd_same] at h; exact .inl (by rw [upd_same]; exact h)
      · rw [upd_same] at h; exact .inr ⟨o', by rw [upd_same]; exact h⟩
    · have h' : Rd G b u := by
        rcases h with h | ⟨o', h⟩
        · rw [upd_ne hb] at h; exact .inl h
        · rw [upd_ne hb] at h; exact .inr ⟨o', h⟩
      rcases e.2 b u z h' with q | ⟨o', q⟩
      · exact .inl (by rw [upd_ne hb]; exact q)
      · exact .inr ⟨o', by rw [upd_ne hb]; exact q⟩
theorem same_upd (e : Same M H) : Same (upd M p o) (upd H p o) := fun b u h => by
  by_cases hb : b = p
  · subst hb; rw [upd_same] at h ⊢; exact h
  · rw [upd_ne hb] at h ⊢; exact e b u h
/-- a new thing that stands for good -/
theorem Sta.newG (S : Sta G M H) (h : H p = none) : Sta (upd G p o) M (upd H p o) :=
  ⟨le_upd S.g, fun b u e => by rw [upd_ne (ne_of_none e (S.freshM h))]; exact S.m b u e, fun b u e => by rw [upd_ne (ne_of_none e (S.freshM h))]; exact S.d b u e⟩
/-- a new cell of one's own -/
theorem Sta.newM (S : Sta G M H) (h : H p = none) : Sta G (upd M p o) (upd H p o) :=
  ⟨S.g.trans (le_new h), same_upd S.m, fun b u e => by
    by_cases hb : b = p
    · rw [hb]; exact S.freshG h
    · rw [upd_ne hb] at e; exact S.d b u e⟩
/-- a cell of one's own is changed -/
theorem Sta.put (S : Sta G M H) (h : M p = some u) : Sta G (upd M p o) (upd H p o) := by
  have gp := S.d p u h
  refine ⟨⟨fun b v e z => ?_, fun b v z r => ?_⟩, same_upd S.m, fun b v e => ?_⟩
  · rw [upd_ne (ne_of_none e gp)]; exact S.g.1 b v e z
  · have hb : b ≠ p := by
      rcases r with r | ⟨_, r⟩
      · exact ne_of_none r gp
      · exact ne_of_none r gp
    rcases S.g.2 b v z r with q | ⟨o', q⟩
    · exact .inl (by rw [upd_ne hb]; exact q)
    · exact .inr ⟨o', by rw [upd_ne hb]; exact q⟩
  · by_cases hb : b = p
    · rw [hb]; exact gp
    · rw [upd_ne hb] at e; exact S.d b v e
/-- a cell of one's own stands for good from now on -/
theorem Sta.freeze (S : Sta G (upd M p o) H) (h : M p = none) : Sta (upd G p o) M H := by
  refine ⟨⟨fun b v e z => ?_, fun b v z r => ?_⟩, fun b v e => S.m b v (by rw [upd_ne (ne_of_none e h)]; exact e), fun b v e => ?_⟩
  · by_cases hb : b = p
    · subst hb; exact S.m b v (by rw [upd_same] at e ⊢; exact e)
    · rw [upd_ne hb] at e; exact S.g.1 b v e z
  · by_cases hb : b = p
    · subst hb
      rcases r with r | ⟨o', r⟩
      · exact .inl (S.m b v (by rw [upd_same] at r ⊢; exact r))
      · exact .inr ⟨o', S.m b _ (by rw [upd_same] at r ⊢; exact r)⟩
    · refine S.g.2 b v z ?_
      rcases r with r | ⟨o', r⟩
      · rw [upd_ne hb] at r; exact .inl r
      · rw [upd_ne hb] at r; exact .inr ⟨o', r⟩
  · have hb := ne_of_none e h
    rw [upd_ne hb]; exact S.d b v (by rw [upd_ne hb]; exact e)
theorem Sta.freezeLe (S : Sta G (upd M p o) H) : Le G (upd G p o) := le_new (S.d p o upd_same)
/-- cells are forgotten -/
theorem Sta.drop (S : Sta G M' H) (h : Same M M') : Sta G M H := ⟨S.g, fun b o e => S.m b o (h b o e), fun b o e => S.d b o (h b o e)⟩
/-- the heap grows -/
theorem Sta.grow (S : Sta G M H) {H' : Hp} (h : Same H H') : Sta G M H' := ⟨S.g.trans (Le.of_same h), S.m.trans h, S.d⟩
theorem Sta.at (S : Sta G M H) (h : M p = some o) : H p = some o := S.m p o h
theorem upd_twice : upd (upd M p o) p u = upd M p u := upd_upd
theorem upd_comm {q : Addr} (h : p ≠ q) : upd (upd M p o) q u = upd (upd M q u) p o := by
  funext b
  unfold upd
  by_cases h1 : b = q
  · subst h1
    rw [if_pos rfl, if_neg (Ne.symm h), if_pos rfl]
  · rw [if_neg h1]
    by_cases h2 : b = p
    · rw [if_pos h2, if_pos h2]
    · rw [if_neg h2, if_neg h2, if_neg h1]
end

/-! ### codecs: how a value stands for data -/
structure Cod (α : Type) where
  r : Hp → V → α → Prop
  mono : ∀ {G G' v d}, Le G G' → r G v d → r G' v d
/-- data that lie in the value alone -/
def cF {α : Type} (f : α → V) : Cod α := ⟨fun _ v d => v = f d, fun _ h => h⟩
def cI : Cod Int := cF V.int
def cS : Cod Str := cF V.str
def cB : Cod Bool := cF V.bl
def cU : Cod Unit := cF fun _ => V.non
def cV : Cod V := cF id
/-- item by item -/
def All2 {α : Type} (c : Cod α) (G : Hp) : List V → List α → Prop
  | [], [] => True
  | v :: vs, d :: ds => c.r G v d ∧ All2 c G vs ds
  | _, _ => False
section
variable {α β γ δ : Type} {c : Cod α} {G G' : Hp}
theorem All2.mono (e : Le G G') : ∀ {vs : List V} {ds : List α}, All2 c G vs ds → All2 c G' vs ds
  | [], [], _ => trivial
  | _ :: _, _ :: _, h => ⟨c.mono e h.1, All2.mono e h.2⟩
  | [], _ :: _, h => h.elim
  | _ :: _, [], h => h.elim
theorem All2.length : ∀ {vs : List V} {ds : List α}, All2 c G vs ds → vs.length = ds.length
  | [], [], _ => rfl
  | _ :: _, _ :: _, h => by simp [All2.length h.2]
  | [], _ :: _, h => h.elim
  | _ :: _, [], h => h.elim
theorem All2.get : ∀ {vs : List V} {ds : List α} {i : Nat} {d : α}, All2 c G vs ds → ds[i]? = some d → ∃ v, vs[i]? = some v ∧ c.r G v d
  | [], [], _, _, _, e => by simp at e
  | v :: _, d :: _, 0, _, h, e => by simp at e; subst e; exact ⟨v, rfl, h.1⟩
  | _ :: vs, _ :: ds, i + 1, _, h, e => by
    obtain ⟨v, h1, h2⟩ := All2.get (i := i) h.2 (by simpa using e)
    exact ⟨v, by simpa using h1, h2⟩
  | [], _ :: _, _, _, h, _ => h.elim
  | _ :: _, [], _, _, h, _ => h.elim
theorem All2.getV : ∀ {vs : List V} {ds : List α} {i : Nat} {v : V}, All2 c G vs ds → vs[i]? = some v → ∃ d, ds[i]? = some d ∧ c.r G v d
  | [], [], _, _, _, e => by simp at e
  | _ :: _, d :: _, 0, _, h, e => by simp at e; subst e; exact ⟨d, rfl, h.1⟩
  | _ :: vs, _ :: ds, i + 1, _, h, e => by
    obtain ⟨v, h1, h2⟩ := All2.getV (i := i) h.2 (by simpa using e)
    exact ⟨v, by simpa using h1, h2⟩
  | [], _ :: _, _, _, h, _ => h.elim
  | _ :: _, [], _, _, h, _ => h.elim
theorem All2.append : ∀ {vs ws : List V} {ds es : List α}, All2 c G vs ds → All2 c G ws es → All2 c G (vs ++ ws) (ds ++ es)
  | [], _, [], _, _, h => h
  | _ :: _, _, _ :: _, _, h, q => ⟨h.1, All2.append h.2 q⟩
  | [], _, _ :: _, _, h, _ => h.elim
  | _ :: _, _, [], _, h, _ => h.elim
theorem All2.map {f : α → V} : ∀ {vs : List V} {ds : List α}, All2 (cF f) G vs ds ↔ vs = ds.map f
  | [], [] => by simp [All2]
  | v :: vs, d :: ds => by
    unfold All2
    rw [All2.map (vs := vs) (ds := ds), List.map_cons, List.cons.injEq]
    exact Iff.rfl
  | [], _ :: _ => by simp [All2]
  | _ :: _, [] => by simp [All2]
theorem All2.of_map {f : α → V} {ds : List α} : All2 (cF f) G (ds.map f) ds := All2.map.mpr rfl
theorem All2.snoc {vs : List V} {ds : List α} {v : V} {d : α} (h : All2 c G vs ds) (q : c.r G v d) : All2 c G (vs ++ [v]) (ds ++ [d]) := All2.append h ⟨q, trivial⟩
theorem All2.take : ∀ (n : Nat) {vs : List V} {ds : List α}, All2 c G vs ds → All2 c G (vs.take n) (ds.take n)
  | 0, _, _, _ => by simp [All2]
  | _ + 1, [], [], _ => by simp [All2]
  | n + 1, _ :: _, _ :: _, h => ⟨h.1, All2.take n h.2⟩
  | _ + 1, [], _ :: _, h => h.elim
  | _ + 1, _ :: _, [], h => h.elim
theorem All2.drop : ∀ (n : Nat) {vs : List V} {ds : List α}, All2 c G vs ds → All2 c G (vs.drop n) (ds.drop n)
  | 0, _, _, h => h
  | _ + 1, [], [], _ => by simp [All2]
  | n + 1, _ :: vs, _ :: ds, h => All2.drop (vs := vs) (ds := ds) n h.2
  | _ + 1, [], _ :: _, h => h.elim
  | _ + 1, _ :: _, [], h => h.elim
theorem All2.reverse : ∀ {vs : List V} {ds : List α}, All2 c G vs ds → All2 c G vs.reverse ds.reverse
  | [], [], _ => trivial
  | _ :: _, _ :: _, h => by
    rw [List.reverse_cons, List.reverse_cons]
    exact All2.snoc (All2.reverse h.2) h.1
  | [], _ :: _, h => h.elim
  | _ :: _, [], h => h.elim
theorem All2.set : ∀ {vs : List V} {ds : List α} (i : Nat) {v : V} {d : α}, All2 c G vs ds → c.r G v d → All2 c G (vs.set i v) (ds.set i d)
  | [], [], _, _, _, _, _ => trivial
  | _ :: _, _ :: _, 0, _, _, h, q => ⟨q, h.2⟩
  | _ :: vs, _ :: ds, i + 1, _, _, h, q => ⟨h.1, All2.set i h.2 q⟩
  | [], _ :: _, _, _, _, h, _ => h.elim
  | _ :: _, [], _, _, _, h, _ => h.elim
end
/-- a list that stands for good -/
def cL {α : Type} (c : Cod α) : Cod (List α) :=
  ⟨fun G v ds => ∃ a xs, v = .ref a ∧ G a = some (.lst xs) ∧ All2 c G xs ds, fun e ⟨a, xs, h1, h2, h3⟩ => ⟨a, xs, h1, e.lst h2, h3.mono e⟩⟩
/-- a tuple of two, three, four -/
def cT2 {α β : Type} (c : Cod α) (d : Cod β) : Cod (α × β) :=
  ⟨fun G v x => ∃ a u w, v = .ref a ∧ G a = some (.tup [u, w]) ∧ c.r G u x.1 ∧ d.r G w x.2, fun e ⟨a, u, w, h1, h2, h3, h4⟩ => ⟨a, u, w, h1, e.tup h2, c.mono e h3, d.mono e h4⟩⟩
open PySem.W (T3 T4)
def cT3 {α β γ : Type} (c1 : Cod α) (c2 : Cod β) (c3 : Cod γ) : Cod (T3 α β γ) :=
  ⟨fun G v x => ∃ a u1 u2 u3, v = .ref a ∧ G a = some (.tup [u1, u2, u3]) ∧ c1.r G u1 x.a ∧ c2.r G u2 x.b ∧ c3.r G u3 x.c,
   fun e ⟨a, u1, u2, u3, h1, h2, h3, h4, h5⟩ => ⟨a, u1, u2, u3, h1, e.tup h2, c1.mono e h3, c2.mono e h4, c3.mono e h5⟩⟩
def cT4 {α β γ δ : Type} (c1 : Cod α) (c2 : Cod β) (c3 : Cod γ) (c4 : Cod δ) : Cod (T4 α β γ δ) :=
  ⟨fun G v x => ∃ a u1 u2 u3 u4, v = .ref a ∧ G a = some (.tup [u1, u2, u3, u4]) ∧ c1.r G u1 x.a ∧ c2.r G u2 x.b ∧ c3.r G u3 x.c ∧ c4.r G u4 x.d,
   fun e ⟨a, u1, u2, u3, u4, h1, h2, h3, h4, h5, h6⟩ => ⟨a, u1, u2, u3, u4, h1, e.tup h2, c1.mono e h3, c2.mono e h4, c3.mono e h5, c4.mono e h6⟩⟩
/-- a tuple of any length, its items of one kind -/
def cTs {α : Type} (c : Cod α) : Cod (List α) :=
  ⟨fun G v ds => ∃ a xs, v = .ref a ∧ G a = some (.tup xs) ∧ All2 c G xs ds, fun e ⟨a, xs, h1, h2, h3⟩ => ⟨a, xs, h1, e.tup h2, h3.mono e⟩⟩
/-- None or something -/
def cO {α : Type} (c : Cod α) : Cod (Option α) :=
  ⟨fun G v d => match d with
    | none => v = .non
    | some x => c.r G v x, fun {G G' v d} e h => by
    cases d with
    | none => exact h
    | some x => exact c.mono e h⟩

/-! ### what a reading evaluates to -/
/-- te gives data d in the codec c; the cells M become M' -/
def Ev (te : TE) (σ : St) (G M M' : Hp) {α : Type} (c : Cod α) (d : α) : Prop :=
  ∀ G1 H1, Le G G1 → Sta G1 M H1 → ∀ Q : VK, (∀ v G2 H2, Le G1 G2 → Sta G2 M' H2 → c.r G2 v d → Q v H2) → te σ H1 Q
def EvT (tt : TT) (σ : St) (G M M' : Hp) (b : Bool) : Prop :=
  ∀ G1 H1, Le G G1 → Sta G1 M H1 → ∀ Q : Bool → Hp → Prop, (∀ G2 H2, Le G1 G2 → Sta G2 M' H2 → Q b H2) → tt σ H1 Q
/-- arguments: P tells of the values -/
def EvA (ta : TA) (σ : St) (G M M' : Hp) (P : Hp → List V → Prop) : Prop :=
  ∀ G1 H1, Le G G1 → Sta G1 M H1 → ∀ Q : List V → Hp → Prop, (∀ vs G2 H2, Le G1 G2 → Sta G2 M' H2 → P G2 vs → Q vs H2) → ta σ H1 Q
/-- a new cell of one's own, its content told by P -/
def EvN (te : TE) (σ : St) (G M M' : Hp) (P : Hp → HO → Prop) : Prop :=
  ∀ G1 H1, Le G G1 → Sta G1 M H1 → ∀ Q : VK, (∀ p o G2 H2, Le G1 G2 → M' p = none → Sta G2 (upd M' p o) H2 → P G2 o → Q (.ref p) H2) → te σ H1 Q
section
variable {α β γ : Type} {te ta tb : TE} {σ : St} {G G' M M' M1 M2 : Hp} {c : Cod α} {d : α}
theorem Ev.up (e : Le G G') (h : Ev te σ G M M' c d) : Ev te σ G' M M' c d := fun G1 H1 e1 => h G1 H1 (e.trans e1)
theorem EvT.up {tt : TT} {b : Bool} (e : Le G G') (h : EvT tt σ G M M' b) : EvT tt σ G' M M' b := fun G1 H1 e1 => h G1 H1 (e.trans e1)
theorem ev_var {i : Nat} {v : V} (h : σ[i]? = some (some v)) (r : c.r G v d) : Ev (tVar i) σ G M M c d := fun G1 H1 e S Q q => ⟨v, h, q v G1 H1 (Le.refl _) S (c.mono e r)⟩
theorem ev_c {f : α → V} : Ev (tC (f d)) σ G M M (cF f) d := fun G1 H1 e S Q q => q _ G1 H1 (Le.refl _) S rfl
theorem ev_int {i : Int} : Ev (tC (.int i)) σ G M M cI i := ev_c
theorem ev_str {i : Str} : Ev (tC (.str i)) σ G M M cS i := ev_c
theorem ev_bl {i : Bool} : Ev (tC (.bl i)) σ G M M cB i := ev_c
theorem ev_non : Ev (tC .non) σ G M M cU () := fun G1 H1 e S Q q => q _ G1 H1 (Le.refl _) S rfl
/-- a two-place operation upon values that lie in themselves -/
theorem ev_op {f : α → V} {g : β → V} {k : γ → V} {r : R2} {x : α} {y : β} {z : γ} (ha : Ev ta σ G M M1 (cF f) x) (hb : Ev tb σ G M1 M2 (cF g) y) (hr : ∀ (H : Hp) (Q : VK), Q (k z) H → r (f x) (g y) H Q) : Ev (tOp r ta tb) σ G M M2 (cF k) z :=
  fun G1 H1 e S Q q => ha G1 H1 e S _ fun v G2 H2 e2 S2 rv => hb G2 H2 (e.trans e2) S2 _ fun u G3 H3 e3 S3 ru => by
    cases rv
    cases ru
    exact hr H3 Q (q _ G3 H3 (e2.trans e3) S3 rfl)
theorem ev_add {x y : Int} (ha : Ev ta σ G M M1 cI x) (hb : Ev tb σ G M1 M2 cI y) : Ev (tOp (rI0 fun i j => .int (i + j)) ta tb) σ G M M2 cI (x + y) := ev_op ha hb fun _ _ q => ⟨_, _, rfl, rfl, q⟩
theorem ev_sub {x y : Int} (ha : Ev ta σ G M M1 cI x) (hb : Ev tb σ G M1 M2 cI y) : Ev (tOp (rI0 fun i j => .int (i - j)) ta tb) σ G M M2 cI (x - y) := ev_op ha hb fun _ _ q => ⟨_, _, rfl, rfl, q⟩
theorem EvA.up {ta : TA} {P : Hp → List V → Prop} (e : Le G G') (h : EvA ta σ G M M' P) : EvA ta σ G' M M' P := fun G1 H1 e1 => h G1 H1 (e.trans e1)
theorem ea_nil : EvA tNil σ G M M fun _ vs => vs = [] := fun G1 H1 e S Q q => q [] G1 H1 (Le.refl _) S rfl
theorem ea_cons {tr : TA} {P : Hp → List V → Prop} (h : Ev te σ G M M1 c d) (hr : EvA tr σ G M1 M2 P) : EvA (tCons te tr) σ G M M2 fun G vs => ∃ v r, vs = v :: r ∧ c.r G v d ∧ P G r := fun G1 H1 e S Q q =>
  h G1 H1 e S _ fun v G2 H2 e2 S2 r2 => hr G2 H2 (e.trans e2) S2 _ fun vs G3 H3 e3 S3 r3 => q _ G3 H3 (e2.trans e3) S3 ⟨v, vs, rfl, c.mono e3 r2, r3⟩
end
end GL
/-! GL2: rules for expressions and statements over what is known. -/
namespace GL
open PySem L2
open PySem.W (T3 T4)

/-! ### partial operations -/
def lenS (x : Str) : Option Int := if x.length ≤ sizeLine then some (x.length : Int) else none
def mulW (x y : Int) : Option Int := if x.natAbs < 2 ^ 400000 ∧ y.natAbs < 2 ^ 400000 then some (x * y) else none
def divP (x y : Int) : Option Int := if 0 < y ∧ y.natAbs < 2 ^ 9000 then some (x / y) else none
def modP (x y : Int) : Option Int := if 0 < y then some (x % y) else none
def catS (x y : Str) : Option Str := if x.length + y.length ≤ sizeLine then some (x ++ y) else none
def catL {α : Type} (x y : List α) : Option (List α) := if x.length + y.length ≤ sizeLine then some (x ++ y) else none
def signAt (z : Str) (i : Int) : Option Str := if z.length ≤ sizeLine then (atI z.cps.toList i).map fun c => ⟨#[c]⟩ else none
def cutSP (z : Str) (lo hi : Option Int) : Option Str := if z.length ≤ sizeLine then some (cutS z lo hi) else none
def cutD {α : Type} (xs : List α) (lo hi : Option Int) : List α := (xs.drop (HT.sIx xs.length 0 lo)).take (HT.sIx xs.length xs.length hi - HT.sIx xs.length 0 lo)
def snoc {α : Type} (xs : List α) (x : α) : Option (List α) := if xs.length < sizeLine then some (xs ++ [x]) else none
theorem ite_some {α : Type} {c : Prop} [Decidable c] {x z : α} (h : (if c then some x else none) = some z) : c ∧ x = z := by
  by_cases hc : c
  · rw [if_pos hc] at h
    exact ⟨hc, Option.some.inj h⟩
  · rw [if_neg hc] at h
    cases h
section
variable {K : PySem.W.Frag} {α β γ δ : Type} {te ta tb tc : TE} {σ : St} {G G' M M' M1 M2 M3 : Hp} {c : Cod α} {d : α}
/-! ### ints -/
theorem ev_mulR {x y : Int} (ha : Ev ta σ G M M1 cI x) (hb : Ev tb σ G M1 M2 cI y) (hc : -(2 ^ 64) < y ∧ y < 2 ^ 64) : Ev (tOp (rI CMul fun i j => .int (i * j)) ta tb) σ G M M2 cI (x * y) := ev_op ha hb fun _ _ q => ⟨_, _, rfl, rfl, .inr hc, q⟩
theorem ev_mulL {x y : Int} (ha : Ev ta σ G M M1 cI x) (hb : Ev tb σ G M1 M2 cI y) (hc : -(2 ^ 64) < x ∧ x < 2 ^ 64) : Ev (tOp (rI CMul fun i j => .int (i * j)) ta tb) σ G M M2 cI (x * y) := ev_op ha hb fun _ _ q => ⟨_, _, rfl, rfl, .inl hc, q⟩
theorem ev_mulW {x y z : Int} (ha : Ev ta σ G M M1 cI x) (hb : Ev tb σ G M1 M2 cI y) (hc : mulW x y = some z) : Ev (tOp (rI CMulW fun i j => .int (i * j)) ta tb) σ G M M2 cI z := by
  obtain ⟨⟨h1, h2⟩, rfl⟩ := ite_some hc
  exact ev_op ha hb fun _ _ q => ⟨_, _, rfl, rfl, wide_mul h1 h2 (by omega) (by omega) (by omega), q⟩
theorem ev_mod {x y z : Int} (ha : Ev ta σ G M M1 cI x) (hb : Ev tb σ G M1 M2 cI y) (hc : modP x y = some z) : Ev (tOp (rI (fun _ j => j ≠ 0) fun i j => .int (i.fmod j)) ta tb) σ G M M2 cI z := by
  obtain ⟨h1, rfl⟩ := ite_some hc
  exact ev_op ha hb fun H Q q => ⟨_, _, rfl, rfl, Int.ne_of_gt h1, by show Q (V.int (x.fmod y)) H; rw [Int.fmod_eq_emod_of_nonneg _ (Int.le_of_lt h1)]; exact q⟩
theorem ev_modC {x y : Int} (ha : Ev ta σ G M M1 cI x) (hb : Ev tb σ G M1 M2 cI y) (h1 : 0 < y) : Ev (tOp (rI (fun _ j => j ≠ 0) fun i j => .int (i.fmod j)) ta tb) σ G M M2 cI (x % y) :=
  ev_op ha hb fun H Q q => ⟨_, _, rfl, rfl, Int.ne_of_gt h1, by show Q (V.int (x.fmod y)) H; rw [Int.fmod_eq_emod_of_nonneg _ (Int.le_of_lt h1)]; exact q⟩
theorem ev_div {x y z : Int} (ha : Ev ta σ G M M1 cI x) (hb : Ev tb σ G M1 M2 cI y) (hc : divP x y = some z) : Ev (tOp (rI CDivW fun i j => .int (i / j)) ta tb) σ G M M2 cI z := by
  obtain ⟨⟨h1, h2⟩, rfl⟩ := ite_some hc
  exact ev_op ha hb fun _ _ q => ⟨_, _, rfl, rfl, wide_div h1 h2 (by omega) (by omega), q⟩
theorem ev_pow {x y : Int} (ha : Ev ta σ G M M1 cI x) (hb : Ev tb σ G M1 M2 cI y) (hc : CPow x y) : Ev (tOp (rI CPow fun i j => .int (i ^ j.toNat)) ta tb) σ G M M2 cI (x ^ y.toNat) := ev_op ha hb fun _ _ q => ⟨_, _, rfl, rfl, hc, q⟩
theorem ev_neg {x : Int} (ha : Ev ta σ G M M1 cI x) : Ev (tUn (rU fun i => .int (-i)) ta) σ G M M1 cI (-x) := fun G1 H1 e S Q q => ha G1 H1 e S _ fun v G2 H2 e2 S2 r => by
  cases r
  exact ⟨x, rfl, q _ G2 H2 e2 S2 rfl⟩
/-! ### comparisons -/
theorem ev_lt {x y : Int} (ha : Ev ta σ G M M1 cI x) (hb : Ev tb σ G M1 M2 cI y) : Ev (tOp (rI0 fun i j => .bl (decide (i < j))) ta tb) σ G M M2 cB (decide (x < y)) := ev_op ha hb fun _ _ q => ⟨_, _, rfl, rfl, q⟩
theorem ev_le {x y : Int} (ha : Ev ta σ G M M1 cI x) (hb : Ev tb σ G M1 M2 cI y) : Ev (tOp (rI0 fun i j => .bl (decide (i ≤ j))) ta tb) σ G M M2 cB (decide (x ≤ y)) := ev_op ha hb fun _ _ q => ⟨_, _, rfl, rfl, q⟩
theorem ev_gt {x y : Int} (ha : Ev ta σ G M M1 cI x) (hb : Ev tb σ G M1 M2 cI y) : Ev (tOp (rI0 fun i j => .bl (decide (i > j))) ta tb) σ G M M2 cB (decide (x > y)) := ev_op ha hb fun _ _ q => ⟨_, _, rfl, rfl, q⟩
theorem ev_ge {x y : Int} (ha : Ev ta σ G M M1 cI x) (hb : Ev tb σ G M1 M2 cI y) : Ev (tOp (rI0 fun i j => .bl (decide (i ≥ j))) ta tb) σ G M M2 cB (decide (x ≥ y)) := ev_op ha hb fun _ _ q => ⟨_, _, rfl, rfl, q⟩
/-- a one-to-one map to scalars -/
class Sc {α : Type} (f : α → V) : Prop where
  sc : ∀ x y, scal (f x) (f y) = true
  inj : ∀ x y, f x = f y → x = y
instance : Sc V.int := ⟨fun _ _ => rfl, fun _ _ h => V.int.inj h⟩
instance : Sc V.str := ⟨fun _ _ => rfl, fun _ _ h => V.str.inj h⟩
instance : Sc V.bl := ⟨fun _ _ => rfl, fun _ _ h => V.bl.inj h⟩
theorem dec_sc {f : α → V} [Sc f] [DecidableEq α] (x y : α) : decide (f x = f y) = decide (x = y) := by
  by_cases h : x = y
  · rw [h]; simp
  · rw [decide_eq_false h, decide_eq_false fun z => h (Sc.inj x y z)]
theorem ev_eq {f : α → V} [Sc f] [DecidableEq α] {x y : α} (ha : Ev ta σ G M M1 (cF f) x) (hb : Ev tb σ G M1 M2 (cF f) y) : Ev (tOp rEq ta tb) σ G M M2 cB (decide (x = y)) := ev_op ha hb fun _ _ q => ⟨Sc.sc x y, by rw [dec_sc]; exact q⟩
theorem ev_ne {f : α → V} [Sc f] [DecidableEq α] {x y : α} (ha : Ev ta σ G M M1 (cF f) x) (hb : Ev tb σ G M1 M2 (cF f) y) : Ev (tOp rNe ta tb) σ G M M2 cB (!decide (x = y)) := ev_op ha hb fun _ _ q => ⟨Sc.sc x y, by rw [dec_sc]; exact q⟩
/-! ### tests -/
theorem et_B {b : Bool} (h : Ev te σ G M M1 cB b) : EvT (tB te) σ G M M1 b := fun G1 H1 e S Q q => h G1 H1 e S _ fun v G2 H2 e2 S2 r => ⟨b, r, q G2 H2 e2 S2⟩
theorem et_and {t u : TT} {a b : Bool} (h1 : EvT t σ G M M1 a) (h2 : a = true → EvT u σ G M1 M2 b) (h3 : a = false → b = false ∧ M2 = M1) : EvT (tAnd t u) σ G M M2 b := fun G1 H1 e S Q q => h1 G1 H1 e S _ fun G2 H2 e2 S2 => by
  cases a with
  | true =>
    show u σ H2 Q
    exact h2 rfl G2 H2 (e.trans e2) S2 Q fun G3 H3 e3 S3 => q G3 H3 (e2.trans e3) S3
  | false =>
    obtain ⟨rfl, rfl⟩ := h3 rfl
    show Q false H2
    exact q G2 H2 e2 S2
theorem et_or {t u : TT} {a b : Bool} (h1 : EvT t σ G M M1 a) (h2 : a = false → EvT u σ G M1 M2 b) (h3 : a = true → b = true ∧ M2 = M1) : EvT (tOr t u) σ G M M2 b := fun G1 H1 e S Q q => h1 G1 H1 e S _ fun G2 H2 e2 S2 => by
  cases a with
  | false =>
    show u σ H2 Q
    exact h2 rfl G2 H2 (e.trans e2) S2 Q fun G3 H3 e3 S3 => q G3 H3 (e2.trans e3) S3
  | true =>
    obtain ⟨rfl, rfl⟩ := h3 rfl
    show Q true H2
    exact q G2 H2 e2 S2
/-- both sides are total -/
theorem et_andT {t u : TT} {a b : Bool} (h1 : EvT t σ G M M a) (h2 : EvT u σ G M M b) : EvT (tAnd t u) σ G M M (a && b) := et_and h1 (fun h => by rw [h]; exact h2) fun h => ⟨by rw [h]; rfl, rfl⟩
theorem et_orT {t u : TT} {a b : Bool} (h1 : EvT t σ G M M a) (h2 : EvT u σ G M M b) : EvT (tOr t u) σ G M M (a || b) := et_or h1 (fun h => by rw [h]; exact h2) fun h => ⟨by rw [h]; rfl, rfl⟩
theorem et_not {t : TT} {a : Bool} (h1 : EvT t σ G M M1 a) : EvT (tNot t) σ G M M1 (!a) := fun G1 H1 e S Q q => h1 G1 H1 e S _ fun G2 H2 e2 S2 => q G2 H2 e2 S2
theorem ev_andV {a b : Bool} (h1 : Ev ta σ G M M1 cB a) (h2 : a = true → Ev tb σ G M1 M2 cB b) (h3 : a = false → b = false ∧ M2 = M1) : Ev (tAndV ta tb) σ G M M2 cB b := fun G1 H1 e S Q q => h1 G1 H1 e S _ fun v G2 H2 e2 S2 r => ⟨a, r, by
  cases a with
  | true =>
    show tb σ H2 Q
    exact h2 rfl G2 H2 (e.trans e2) S2 Q fun v G3 H3 e3 S3 r3 => q v G3 H3 (e2.trans e3) S3 r3
  | false =>
    obtain ⟨rfl, rfl⟩ := h3 rfl
    exact q _ G2 H2 e2 S2 rfl⟩
theorem ev_orV {a b : Bool} (h1 : Ev ta σ G M M1 cB a) (h2 : a = false → Ev tb σ G M1 M2 cB b) (h3 : a = true → b = true ∧ M2 = M1) : Ev (tOrV ta tb) σ G M M2 cB b := fun G1 H1 e S Q q => h1 G1 H1 e S _ fun v G2 H2 e2 S2 r => ⟨a, r, by
  cases a with
  | false =>
    show tb σ H2 Q
    exact h2 rfl G2 H2 (e.trans e2) S2 Q fun v G3 H3 e3 S3 r3 => q v G3 H3 (e2.trans e3) S3 r3
  | true =>
    obtain ⟨rfl, rfl⟩ := h3 rfl
    exact q _ G2 H2 e2 S2 rfl⟩
theorem ev_andVT {a b : Bool} (h1 : Ev ta σ G M M cB a) (h2 : Ev tb σ G M M cB b) : Ev (tAndV ta tb) σ G M M cB (a && b) := ev_andV h1 (fun h => by rw [h]; exact h2) fun h => ⟨by rw [h]; rfl, rfl⟩
theorem ev_orVT {a b : Bool} (h1 : Ev ta σ G M M cB a) (h2 : Ev tb σ G M M cB b) : Ev (tOrV ta tb) σ G M M cB (a || b) := ev_orV h1 (fun h => by rw [h]; exact h2) fun h => ⟨by rw [h]; rfl, rfl⟩
theorem ev_notV {a : Bool} (h1 : Ev ta σ G M M1 cB a) : Ev (tNotV ta) σ G M M1 cB (!a) := fun G1 H1 e S Q q => h1 G1 H1 e S _ fun v G2 H2 e2 S2 r => ⟨a, r, q _ G2 H2 e2 S2 rfl⟩
/-- a if t else b -/
theorem ev_if {t : TT} {b : Bool} (h : EvT t σ G M M1 b) (h1 : b = true → Ev ta σ G M1 M2 c d) (h2 : b = false → Ev tb σ G M1 M2 c d) : Ev (tIf t ta tb) σ G M M2 c d := fun G1 H1 e S Q q => h G1 H1 e S _ fun G2 H2 e2 S2 => by
  cases b with
  | true =>
    show ta σ H2 Q
    exact h1 rfl G2 H2 (e.trans e2) S2 Q fun v G3 H3 e3 S3 r => q v G3 H3 (e2.trans e3) S3 r
  | false =>
    show tb σ H2 Q
    exact h2 rfl G2 H2 (e.trans e2) S2 Q fun v G3 H3 e3 S3 r => q v G3 H3 (e2.trans e3) S3 r
theorem ev_ifT {t : TT} {b : Bool} {d1 d2 : α} (h : EvT t σ G M M b) (h1 : Ev ta σ G M M c d1) (h2 : Ev tb σ G M M c d2) : Ev (tIf t ta tb) σ G M M c (if b = true then d1 else d2) :=
  ev_if h (fun e => by rw [if_pos e]; exact h1) fun e => by rw [if_neg (by rw [e]; decide)]; exact h2
theorem ev_of {d' : α} (h : Ev te σ G M M' c d) (e : d = d') : Ev te σ G M M' c d' := by rw [← e]; exact h
theorem et_of {tt : TT} {b b' : Bool} (h : EvT tt σ G M M' b) (e : b = b') : EvT tt σ G M M' b' := by rw [← e]; exact h
/-! ### items -/
theorem atI_all {G : Hp} {xs : List V} {ds : List α} {i : Int} (h : All2 c G xs ds) (hd : atI ds i = some d) : ∃ v, atI xs i = some v ∧ c.r G v d := by
  unfold atI at hd ⊢
  rw [h.length]
  cases e : ixN ds.length i with
  | none => rw [e] at hd; cases hd
  | some j =>
    rw [e] at hd
    obtain ⟨v, h1, h2⟩ := All2.get (i := j) h (show ds[j]? = some d from hd)
    exact ⟨v, h1, h2⟩
theorem ev_ixL {ds : List α} {i : Int} (ha : Ev ta σ G M M1 (cL c) ds) (hb : Ev tb σ G M1 M2 cI i) (hd : atI ds i = some d) : Ev (tOp (rIxL K) ta tb) σ G M M2 c d := fun G1 H1 e S Q q =>
  ha G1 H1 e S _ fun v G2 H2 e2 S2 ⟨a, xs, r1, r2, r3⟩ => hb G2 H2 (e.trans e2) S2 _ fun u G3 H3 e3 S3 ru => by
    cases ru
    obtain ⟨z, h1, h2⟩ := atI_all (r3.mono e3) hd
    exact ⟨a, xs, i, z, r1, rfl, SqL.of ((e3.trans S3.g).lst r2), h1, q z G3 H3 (e2.trans e3) S3 h2⟩
theorem ev_ixTs {ds : List α} {i : Int} (ha : Ev ta σ G M M1 (cTs c) ds) (hb : Ev tb σ G M1 M2 cI i) (hd : atI ds i = some d) : Ev (tOp (rIxT K) ta tb) σ G M M2 c d := fun G1 H1 e S Q q =>
  ha G1 H1 e S _ fun v G2 H2 e2 S2 ⟨a, xs, r1, r2, r3⟩ => hb G2 H2 (e.trans e2) S2 _ fun u G3 H3 e3 S3 ru => by
    cases ru
    obtain ⟨z, h1, h2⟩ := atI_all (r3.mono e3) hd
    exact ⟨a, xs, i, z, r1, rfl, .inl (.inl ((e3.trans S3.g).tup r2)), h1, q z G3 H3 (e2.trans e3) S3 h2⟩
theorem ev_ixS {z y : Str} {i : Int} (ha : Ev ta σ G M M1 cS z) (hb : Ev tb σ G M1 M2 cI i) (hd : signAt z i = some y) : Ev (tOp rIxS ta tb) σ G M M2 cS y := by
  obtain ⟨h1, h2⟩ : z.length ≤ sizeLine ∧ ((atI z.cps.toList i).map fun c => (⟨#[c]⟩ : Str)) = some y := by
    unfold signAt at hd
    by_cases h : z.length ≤ sizeLine
    · rw [if_pos h] at hd; exact ⟨h, hd⟩
    · rw [if_neg h] at hd; cases hd
  obtain ⟨k, h3, h4⟩ := Option.map_eq_some_iff.mp h2
  exact ev_op ha hb fun H Q q => ⟨z, i, k, rfl, rfl, h1, h3, by rw [h4]; exact q⟩
/-- t[0], t[1] of a tuple of two, three -/
theorem ev_tix {n : Nat} {x : α} {cx : Cod α} {cy : Cod β} {y : β} (ha : Ev ta σ G M M1 cx x) (hb : tb = tC (.int (n : Int)))
    (h : ∀ G v, cx.r G v x → ∃ a xs u, v = .ref a ∧ G a = some (.tup xs) ∧ xs[n]? = some u ∧ cy.r G u y) : Ev (tOp (rIxT K) ta tb) σ G M M1 cy y := fun G1 H1 e S Q q =>
  ha G1 H1 e S _ fun v G2 H2 e2 S2 r => by
    obtain ⟨a, xs, u, h1, h2, h3, h4⟩ := h G2 v r
    subst hb
    exact ⟨a, xs, n, u, h1, rfl, .inl (.inl (S2.g.tup h2)), atI_nat h3, q u G2 H2 e2 S2 h4⟩
theorem ev_t20 {cx : Cod α} {cy : Cod β} {x : α × β} (ha : Ev ta σ G M M1 (cT2 cx cy) x) : Ev (tOp (rIxT K) ta (tC (.int 0))) σ G M M1 cx x.1 := ev_tix (n := 0) ha rfl fun G v ⟨a, u, w, h1, h2, h3, h4⟩ => ⟨a, _, u, h1, h2, rfl, h3⟩
theorem ev_t21 {cx : Cod α} {cy : Cod β} {x : α × β} (ha : Ev ta σ G M M1 (cT2 cx cy) x) : Ev (tOp (rIxT K) ta (tC (.int 1))) σ G M M1 cy x.2 := ev_tix (n := 1) ha rfl fun G v ⟨a, u, w, h1, h2, h3, h4⟩ => ⟨a, _, w, h1, h2, rfl, h4⟩
theorem ev_t30 {cx : Cod α} {cy : Cod β} {cz : Cod γ} {x : T3 α β γ} (ha : Ev ta σ G M M1 (cT3 cx cy cz) x) : Ev (tOp (rIxT K) ta (tC (.int 0))) σ G M M1 cx x.a := ev_tix (n := 0) ha rfl fun G v ⟨a, u1, u2, u3, h1, h2, h3, h4, h5⟩ => ⟨a, _, u1, h1, h2, rfl, h3⟩
theorem ev_t31 {cx : Cod α} {cy : Cod β} {cz : Cod γ} {x : T3 α β γ} (ha : Ev ta σ G M M1 (cT3 cx cy cz) x) : Ev (tOp (rIxT K) ta (tC (.int 1))) σ G M M1 cy x.b := ev_tix (n := 1) ha rfl fun G v ⟨a, u1, u2, u3, h1, h2, h3, h4, h5⟩ => ⟨a, _, u2, h1, h2, rfl, h4⟩
theorem ev_t32 {cx : Cod α} {cy : Cod β} {cz : Cod γ} {x : T3 α β γ} (ha : Ev ta σ G M M1 (cT3 cx cy cz) x) : Ev (tOp (rIxT K) ta (tC (.int 2))) σ G M M1 cz x.c := ev_tix (n := 2) ha rfl fun G v ⟨a, u1, u2, u3, h1, h2, h3, h4, h5⟩ => ⟨a, _, u3, h1, h2, rfl, h5⟩
/-! ### displays -/
theorem ev_tup2 {x : α} {y : β} {cx : Cod α} {cy : Cod β} (ha : Ev ta σ G M M1 cx x) (hb : Ev tb σ G M1 M2 cy y) : Ev (tTup (tCons ta (tCons tb tNil))) σ G M M2 (cT2 cx cy) (x, y) := fun G1 H1 e S Q q =>
  ha G1 H1 e S _ fun v G2 H2 e2 S2 r2 => hb G2 H2 (e.trans e2) S2 _ fun u G3 H3 e3 S3 r3 => ⟨by show 2 ≤ sizeLine; decide, fun p hp => by
    have l := le_new (G := G3) (o := .tup [v, u]) (S3.freshG hp)
    exact q _ (upd G3 p (.tup [v, u])) _ ((e2.trans e3).trans l) (S3.newG hp) ⟨p, v, u, rfl, upd_same, cx.mono (e3.trans l) r2, cy.mono l r3⟩⟩
theorem ev_tup3 {x : α} {y : β} {z : γ} {cx : Cod α} {cy : Cod β} {cz : Cod γ} (ha : Ev ta σ G M M1 cx x) (hb : Ev tb σ G M1 M2 cy y) (hc : Ev tc σ G M2 M3 cz z) :
    Ev (tTup (tCons ta (tCons tb (tCons tc tNil)))) σ G M M3 (cT3 cx cy cz) ⟨x, y, z⟩ := fun G1 H1 e S Q q =>
  ha G1 H1 e S _ fun v G2 H2 e2 S2 r2 => hb G2 H2 (e.trans e2) S2 _ fun u G3 H3 e3 S3 r3 => hc G3 H3 ((e.trans e2).trans e3) S3 _ fun w G4 H4 e4 S4 r4 => ⟨by show 3 ≤ sizeLine; decide, fun p hp => by
    have l := le_new (G := G4) (o := .tup [v, u, w]) (S4.freshG hp)
    exact q _ (upd G4 p (.tup [v, u, w])) _ (((e2.trans e3).trans e4).trans l) (S4.newG hp) ⟨p, v, u, w, rfl, upd_same, cx.mono ((e3.trans e4).trans l) r2, cy.mono (e4.trans l) r3, cz.mono l r4⟩⟩
/-- items of one kind -/
def EvIs (ta : TA) (σ : St) (G M M' : Hp) {α : Type} (c : Cod α) (ds : List α) : Prop := EvA ta σ G M M' fun G vs => All2 c G vs ds
theorem ei_nil : EvIs tNil σ G M M c [] := fun G1 H1 e S Q q => q [] G1 H1 (Le.refl _) S trivial
theorem ei_cons {tr : TA} {ds : List α} (h : Ev te σ G M M1 c d) (hr : EvIs tr σ G M1 M2 c ds) : EvIs (tCons te tr) σ G M M2 c (d :: ds) := fun G1 H1 e S Q q =>
  h G1 H1 e S _ fun v G2 H2 e2 S2 r2 => hr G2 H2 (e.trans e2) S2 _ fun vs G3 H3 e3 S3 r3 => q _ G3 H3 (e2.trans e3) S3 ⟨c.mono e3 r2, r3⟩
/-- the content of a list -/
def isL {α : Type} (c : Cod α) (ds : List α) (G : Hp) (o : HO) : Prop := ∃ xs, o = .lst xs ∧ All2 c G xs ds
theorem en_lst {t : TA} {ds : List α} (h : EvIs t σ G M M1 c ds) (hz : ds.length ≤ 1000) : EvN (tLst t) σ G M M1 (isL c ds) := fun G1 H1 e S Q q =>
  h G1 H1 e S _ fun vs G2 H2 e2 S2 r => ⟨by rw [r.length]; exact Nat.le_trans hz (by decide), fun p hp => q p (.lst vs) G2 _ e2 (S2.freshM hp) (S2.newM hp) ⟨vs, rfl, r⟩⟩
theorem ev_lst {t : TA} {ds : List α} (h : EvIs t σ G M M1 c ds) (hz : ds.length ≤ 1000) : Ev (tLst t) σ G M M1 (cL c) ds := fun G1 H1 e S Q q =>
  h G1 H1 e S _ fun vs G2 H2 e2 S2 r => ⟨by rw [r.length]; exact Nat.le_trans hz (by decide), fun p hp => by
    have l := le_new (G := G2) (o := .lst vs) (S2.freshG hp)
    exact q _ (upd G2 p (.lst vs)) _ (e2.trans l) (S2.newG hp) ⟨p, vs, rfl, upd_same, r.mono l⟩⟩
theorem ev_tups {t : TA} {ds : List α} (h : EvIs t σ G M M1 c ds) (hz : ds.length ≤ 1000) : Ev (tTup t) σ G M M1 (cTs c) ds := fun G1 H1 e S Q q =>
  h G1 H1 e S _ fun vs G2 H2 e2 S2 r => ⟨by rw [r.length]; exact Nat.le_trans hz (by decide), fun p hp => by
    have l := le_new (G := G2) (o := .tup vs) (S2.freshG hp)
    exact q _ (upd G2 p (.tup vs)) _ (e2.trans l) (S2.newG hp) ⟨p, vs, rfl, upd_same, r.mono l⟩⟩
/-- a new cell that stands for good at once -/
theorem ev_frz {P : Hp → HO → Prop} (h : EvN te σ G M M' P) (hc : ∀ G p o, P G o → Le G (upd G p o) → c.r (upd G p o) (.ref p) d) : Ev te σ G M M' c d := fun G1 H1 e S Q q =>
  h G1 H1 e S _ fun p o G2 H2 e2 hp S2 r => q _ (upd G2 p o) H2 (e2.trans S2.freezeLe) (S2.freeze hp) (hc G2 p o r S2.freezeLe)
theorem isL_frz {ds : List α} : ∀ G p o, isL c ds G o → Le G (upd G p o) → (cL c).r (upd G p o) (.ref p) ds := fun G p o ⟨xs, e, h⟩ l => ⟨p, xs, rfl, by rw [upd_same, e], h.mono l⟩
theorem ev_frzL {ds : List α} (h : EvN te σ G M M' (isL c ds)) : Ev te σ G M M' (cL c) ds := ev_frz h isL_frz
/-! ### calls -/
def Ret (Q : VK) (G M' : Hp) {α : Type} (c : Cod α) (d : α) : Prop := ∀ v G' H', Le G G' → Sta G' M' H' → c.r G' v d → Q v H'
def RetN (Q : VK) (G M' : Hp) (P : Hp → HO → Prop) : Prop := ∀ p o G' H', Le G G' → M' p = none → Sta G' (upd M' p o) H' → P G' o → Q (.ref p) H'
theorem ev_call1 {sp : Sp} {E : XK} {c1 : Cod β} {d1 : β} (hs : ∀ G1 H1 v1 Q, Sta G1 M1 H1 → c1.r G1 v1 d1 → Ret Q G1 M2 c d → sp [v1] H1 Q E) (h1 : Ev ta σ G M M1 c1 d1) : Ev (tCall sp [] E (tCons ta tNil)) σ G M M2 c d := fun G1 H1 e S Q q =>
  h1 G1 H1 e S _ fun v G2 H2 e2 S2 r => hs G2 H2 v Q S2 r fun w G3 H3 e3 S3 rw => q w G3 H3 (e2.trans e3) S3 rw
theorem ev_call2 {sp : Sp} {E : XK} {c1 : Cod β} {d1 : β} {c2 : Cod γ} {d2 : γ} (hs : ∀ G1 H1 v1 v2 Q, Sta G1 M2 H1 → c1.r G1 v1 d1 → c2.r G1 v2 d2 → Ret Q G1 M3 c d → sp [v1, v2] H1 Q E)
    (h1 : Ev ta σ G M M1 c1 d1) (h2 : Ev tb σ G M1 M2 c2 d2) : Ev (tCall sp [] E (tCons ta (tCons tb tNil))) σ G M M3 c d := fun G1 H1 e S Q q =>
  h1 G1 H1 e S _ fun v G2 H2 e2 S2 r => h2 G2 H2 (e.trans e2) S2 _ fun u G3 H3 e3 S3 ru => hs G3 H3 v u Q S3 (c1.mono e3 r) ru fun w G4 H4 e4 S4 rw => q w G4 H4 ((e2.trans e3).trans e4) S4 rw
/-- a cell's address -/
def cA (p : Addr) : Cod Unit := cF fun _ => V.ref p
end
end GL
/-! GL3: statements, walks, loops, comprehensions over what is known. -/
namespace GL
open PySem L2
open PySem.W (T3 T4)

section
variable {K : PySem.W.Frag} {α β γ τ : Type} {te ta tb tc : TE} {σ : St} {G G' M M' M1 M2 M3 H : Hp} {c : Cod α} {d : α} {D : Ends}
theorem Sta.eqM (S : Sta G M H) (e : M = M') : Sta G M' H := e ▸ S
theorem ev_M (h : Ev te σ G M M1 c d) (e : M1 = M2) : Ev te σ G M M2 c d := e ▸ h
theorem et_M {t : TT} {b : Bool} (h : EvT t σ G M M1 b) (e : M1 = M2) : EvT t σ G M M2 b := e ▸ h
theorem upd_in0 {p : Addr} {o1 o2 : HO} : upd (upd M p o1) p o2 = upd M p o2 := upd_upd
theorem upd_in1 {p q : Addr} {o1 o2 u : HO} (h : p ≠ q) : upd (upd (upd M p o1) q u) p o2 = upd (upd M p o2) q u := by
  rw [upd_comm (Ne.symm h), upd_upd]
theorem upd_in2 {p q r : Addr} {o1 o2 u w : HO} (h : p ≠ q) (h2 : p ≠ r) : upd (upd (upd (upd M p o1) q u) r w) p o2 = upd (upd (upd M p o2) q u) r w := by
  rw [upd_comm (Ne.symm h2), upd_in1 h]

/-! ### statements -/
theorem s_asg {i : Nat} (h : Ev te σ G M M1 c d) (S : Sta G M H) (k : ∀ v G2 H2, Le G G2 → Sta G2 M1 H2 → c.r G2 v d → D.nx (σ.set i (some v)) H2) : tAsg te (gName i) D σ H := h G H (Le.refl G) S _ k
/-- data in the value alone -/
theorem s_asgF {i : Nat} {f : α → V} (h : Ev te σ G M M1 (cF f) d) (S : Sta G M H) (k : ∀ G2 H2, Le G G2 → Sta G2 M1 H2 → D.nx (σ.set i (some (f d))) H2) : tAsg te (gName i) D σ H := h G H (Le.refl G) S _ fun v G2 H2 e2 S2 r => by
  cases r
  exact k G2 H2 e2 S2
/-- a new cell -/
theorem s_asgN {i : Nat} {P : Hp → HO → Prop} (h : EvN te σ G M M1 P) (S : Sta G M H) (k : ∀ p o G2 H2, Le G G2 → M1 p = none → Sta G2 (upd M1 p o) H2 → P G2 o → D.nx (σ.set i (some (.ref p))) H2) : tAsg te (gName i) D σ H := h G H (Le.refl G) S _ k
theorem s_ret (h : Ev te σ G M M1 c d) (S : Sta G M H) (k : ∀ v G2 H2, Le G G2 → Sta G2 M1 H2 → c.r G2 v d → D.rt v H2) : tRet te D σ H := h G H (Le.refl G) S _ k
theorem s_retN {P : Hp → HO → Prop} (h : EvN te σ G M M1 P) (S : Sta G M H) (k : ∀ p o G2 H2, Le G G2 → M1 p = none → Sta G2 (upd M1 p o) H2 → P G2 o → D.rt (.ref p) H2) : tRet te D σ H := h G H (Le.refl G) S _ k
theorem s_drop (h : Ev te σ G M M1 c d) (S : Sta G M H) (k : ∀ G2 H2, Le G G2 → Sta G2 M1 H2 → D.nx σ H2) : tDrop te D σ H := h G H (Le.refl G) S _ fun v G2 H2 e S _ => k G2 H2 e S
theorem s_if {t : TT} {u w : TS} {b : Bool} (h : EvT t σ G M M1 b) (S : Sta G M H) (k1 : b = true → ∀ G2 H2, Le G G2 → Sta G2 M1 H2 → u D σ H2) (k2 : b = false → ∀ G2 H2, Le G G2 → Sta G2 M1 H2 → w D σ H2) : tIfS t u w D σ H :=
  h G H (Le.refl G) S _ fun G2 H2 e S2 => by
    cases b with
    | true =>
      show u D σ H2
      exact k1 rfl G2 H2 e S2
    | false =>
      show w D σ H2
      exact k2 rfl G2 H2 e S2
theorem s_aug {i : Nat} {f : Int → Int → Int} {x y : Int} (hx : σ[i]? = some (some (.int x))) (h : Ev te σ G M M1 cI y) (S : Sta G M H) (k : ∀ G2 H2, Le G G2 → Sta G2 M1 H2 → D.nx (σ.set i (some (.int (f x y)))) H2) : tAug i te (ipI f) D σ H :=
  ⟨.int x, hx, h G H (Le.refl G) S _ fun v G2 H2 e2 S2 r => ⟨x, y, rfl, r, k G2 H2 e2 S2⟩⟩
/-- a, b = x, y -/
theorem s_par {i j : Nat} {c2 : Cod β} {d2 : β} (h1 : Ev ta σ G M M1 c d) (h2 : Ev tb σ G M1 M2 c2 d2) (S : Sta G M H) (k : ∀ v w G2 H2, Le G G2 → Sta G2 M2 H2 → c.r G2 v d → c2.r G2 w d2 → D.nx ((σ.set i (some v)).set j (some w)) H2) : tPar i j (tCons ta (tCons tb tNil)) D σ H :=
  h1 G H (Le.refl G) S _ fun v G2 H2 e2 S2 r => h2 G2 H2 e2 S2 _ fun w G3 H3 e3 S3 r3 => ⟨v, w, rfl, k v w G3 H3 (e2.trans e3) S3 (c.mono e3 r) r3⟩
/-! ### cells that are lists -/
/-- x[i] = e -/
theorem s_setL {p : Addr} {xs : List V} {k : Int} {j : Nat} (h : Ev te σ G M M1 c d) (ho : Ev ta σ G M1 M1 (cA p) ()) (hi : Ev tb σ G M1 M1 cI k) (S : Sta G M H) (hp : M1 p = some (.lst xs)) (hj : ixN xs.length k = some j)
    (q : ∀ v G2 H2, Le G G2 → Sta G2 (upd M1 p (.lst (xs.set j v))) H2 → c.r G2 v d → D.nx σ H2) : tAsg te (gSub ta tb rSetL) D σ H :=
  h G H (Le.refl G) S _ fun v G2 H2 e2 S2 r => ho G2 H2 e2 S2 _ fun v3 G3 H3 e3 S3 r3 => hi G3 H3 (e2.trans e3) S3 _ fun v4 G4 H4 e4 S4 r4 =>
    ⟨p, xs, k, j, r3, r4, S4.m _ _ hp, hj, q v G4 _ ((e2.trans e3).trans e4) (S4.put hp) (c.mono (e3.trans e4) r)⟩
/-- x[i] of a cell -/
theorem ev_ixM {p : Addr} {xs : List V} {k : Int} {v : V} (ho : Ev ta σ G M M1 (cA p) ()) (hi : Ev tb σ G M1 M2 cI k) (hp : M2 p = some (.lst xs)) (hj : atI xs k = some v) (r : c.r G v d) : Ev (tOp (rIxL K) ta tb) σ G M M2 c d := fun G1 H1 e S Q q =>
  ho G1 H1 e S _ fun v2 G2 H2 e2 S2 r2 => hi G2 H2 (e.trans e2) S2 _ fun v3 G3 H3 e3 S3 r3 => ⟨p, xs, k, v, r2, r3, .inl (.inl (S3.m _ _ hp)), hj, q v G3 H3 (e2.trans e3) S3 (c.mono ((e.trans e2).trans e3) r)⟩
/-- a cell's reference -/
theorem ev_ref {p : Addr} {i : Nat} (h : σ[i]? = some (some (.ref p))) : Ev (tVar i) σ G M M (cA p) () := ev_var h rfl
theorem tyL {p : Addr} {xs : List V} {v : V} {H : Hp} (h : v = .ref p) (hp : H p = some (.lst xs)) : tyV K "list" v H := by
  subst h
  exact .inl ⟨rfl, xs, .inl (.inl hp)⟩
/-- xs.append(e) -/
theorem s_append {p : Addr} {xs : List V} (ho : Ev ta σ G M M (cA p) ()) (h : Ev te σ G M M1 c d) (S : Sta G M H) (hp : M p = some (.lst xs)) (hp1 : M1 p = some (.lst xs)) (hz : xs.length < sizeLine)
    (q : ∀ v G2 H2, Le G G2 → Sta G2 (upd M1 p (.lst (xs ++ [v]))) H2 → c.r G2 v d → D.nx σ H2) : tDrop (tBM K "list" rAppend ta (tCons te tNil)) D σ H :=
  ho G H (Le.refl G) S _ fun v2 G2 H2 e2 S2 r2 => ⟨tyL r2 (S2.m _ _ hp), h G2 H2 e2 S2 _ fun v G3 H3 e3 S3 r3 => ⟨p, xs, v, r2, rfl, S3.m _ _ hp1, hz, q v G3 _ (e2.trans e3) (S3.put hp1) r3⟩⟩
/-- freezing a cell -/
theorem Sta.frzL {p : Addr} {xs : List V} {ds : List α} (S : Sta G (upd M p (.lst xs)) H) (h : M p = none) (a : All2 c G xs ds) : Sta (upd G p (.lst xs)) M H ∧ Le G (upd G p (.lst xs)) ∧ (cL c).r (upd G p (.lst xs)) (.ref p) ds :=
  ⟨S.freeze h, S.freezeLe, p, xs, rfl, upd_same, a.mono S.freezeLe⟩
/-! ### len, list(..), slices .. -/
theorem ev_cb1 {r : List V → Hp → VK → Prop} {c1 : Cod β} {d1 : β} (h : Ev ta σ G M M1 c1 d1) (hr : ∀ G1 H1 v Q, Le G G1 → Sta G1 M1 H1 → c1.r G1 v d1 → Ret Q G1 M2 c d → r [v] H1 Q) : Ev (tCB r (tCons ta tNil)) σ G M M2 c d := fun G1 H1 e S Q q =>
  h G1 H1 e S _ fun v G2 H2 e2 S2 r2 => hr G2 H2 v Q (e.trans e2) S2 r2 fun w G3 H3 e3 S3 r3 => q w G3 H3 (e2.trans e3) S3 r3
theorem en_cb1 {r : List V → Hp → VK → Prop} {P : Hp → HO → Prop} {c1 : Cod β} {d1 : β} (h : Ev ta σ G M M1 c1 d1) (hr : ∀ G1 H1 v Q, Le G G1 → Sta G1 M1 H1 → c1.r G1 v d1 → RetN Q G1 M2 P → r [v] H1 Q) : EvN (tCB r (tCons ta tNil)) σ G M M2 P := fun G1 H1 e S Q q =>
  h G1 H1 e S _ fun v G2 H2 e2 S2 r2 => hr G2 H2 v Q (e.trans e2) S2 r2 fun p o G3 H3 e3 hp S3 r3 => q p o G3 H3 (e2.trans e3) hp S3 r3
def rLenS (K : PySem.W.Frag) : List V → Hp → VK → Prop := fun xs H Q => ∃ p ys, xs = [.ref p] ∧ (SqL K H p ys ∨ SqT K H p ys) ∧ Q (.int ys.length) H
theorem ev_len {ds : List α} (h : Ev ta σ G M M1 (cL c) ds) : Ev (tCB (rLenS K) (tCons ta tNil)) σ G M M1 cI (ds.length : Int) := ev_cb1 h fun G1 H1 v Q e S ⟨a, xs, h1, h2, h3⟩ q => ⟨a, xs, by rw [h1], .inl (SqL.of (S.g.lst h2)), by rw [h3.length]; exact q _ G1 H1 (Le.refl _) S rfl⟩
theorem ev_lenTs {ds : List α} (h : Ev ta σ G M M1 (cTs c) ds) : Ev (tCB (rLenS K) (tCons ta tNil)) σ G M M1 cI (ds.length : Int) := ev_cb1 h fun G1 H1 v Q e S ⟨a, xs, h1, h2, h3⟩ q => ⟨a, xs, by rw [h1], .inr (.inl (.inl (S.g.tup h2))), by rw [h3.length]; exact q _ G1 H1 (Le.refl _) S rfl⟩
theorem ev_lenM {p : Addr} {xs : List V} (h : Ev ta σ G M M1 (cA p) ()) (hp : M1 p = some (.lst xs)) : Ev (tCB (rLenS K) (tCons ta tNil)) σ G M M1 cI (xs.length : Int) := ev_cb1 h fun G1 H1 v Q e S r q => ⟨p, xs, by cases r; rfl, .inl (.inl (.inl (S.m _ _ hp))), q _ G1 H1 (Le.refl _) S rfl⟩
def rLenStr : List V → Hp → VK → Prop := fun xs H Q => ∃ z, xs = [V.str z] ∧ z.length ≤ sizeLine ∧ Q (V.int ↑z.length) H
theorem ev_lenS {z : Str} {n : Int} (h : Ev ta σ G M M1 cS z) (hn : lenS z = some n) : Ev (tCB rLenStr (tCons ta tNil)) σ G M M1 cI n := by
  obtain ⟨h1, rfl⟩ := ite_some hn
  exact ev_cb1 h fun G1 H1 v Q e S r q => ⟨z, by cases r; rfl, h1, q _ G1 H1 (Le.refl _) S rfl⟩
def rListS (K : PySem.W.Frag) : List V → Hp → VK → Prop := fun xs H Q => ∃ p ys, xs = [.ref p] ∧ (SqL K H p ys ∨ SqT K H p ys) ∧ ∀ l, H l = none → Q (.ref l) (upd H l (.lst ys))
theorem en_list {ds : List α} (h : Ev ta σ G M M1 (cL c) ds) : EvN (tCB (rListS K) (tCons ta tNil)) σ G M M1 (isL c ds) := en_cb1 h fun G1 H1 v Q e S ⟨a, xs, h1, h2, h3⟩ q =>
  ⟨a, xs, by rw [h1], .inl (SqL.of (S.g.lst h2)), fun l hl => q l (.lst xs) G1 _ (Le.refl _) (S.freshM hl) (S.newM hl) ⟨xs, rfl, h3⟩⟩
/-- slices: parts -/
def EvO (to : TO) (σ : St) (G M M' : Hp) (o : Option Int) : Prop := ∀ G1 H1, Le G G1 → Sta G1 M H1 → ∀ Q : Option Int → Hp → Prop, (∀ G2 H2, Le G1 G2 → Sta G2 M' H2 → Q o H2) → to σ H1 Q
theorem eo_none : EvO tNoPart σ G M M none := fun G1 H1 e S Q q => q G1 H1 (Le.refl _) S
theorem eo_some {i : Int} (h : Ev te σ G M M1 cI i) : EvO (tPart te) σ G M M1 (some i) := fun G1 H1 e S Q q => h G1 H1 e S _ fun v G2 H2 e2 S2 r => ⟨i, r, q G2 H2 e2 S2⟩
theorem cutV_eq {G : Hp} {xs : List V} {ds : List α} {lo hi : Option Int} (h : All2 c G xs ds) : All2 c G (cutV xs lo hi) (cutD ds lo hi) := by
  unfold cutV cutD
  rw [h.length]
  exact All2.take _ (All2.drop _ h)
theorem en_slice {ds : List α} {tl th : TO} {lo hi : Option Int} (h : Ev te σ G M M1 (cL c) ds) (hl : EvO tl σ G M1 M2 lo) (hh : EvO th σ G M2 M3 hi) : EvN (tSl (rSlL K) te tl th) σ G M M3 (isL c (cutD ds lo hi)) := fun G1 H1 e S Q q =>
  h G1 H1 e S _ fun v G2 H2 e2 S2 ⟨a, xs, r1, r2, r3⟩ => hl G2 H2 (e.trans e2) S2 _ fun G3 H3 e3 S3 => hh G3 H3 ((e.trans e2).trans e3) S3 _ fun G4 H4 e4 S4 =>
    ⟨a, xs, r1, SqL.of (((e3.trans e4).trans S4.g).lst r2), fun p hp => q p _ G4 _ ((e2.trans e3).trans e4) (S4.freshM hp) (S4.newM hp) ⟨_, rfl, cutV_eq (r3.mono (e3.trans e4))⟩⟩
theorem ev_sliceS {z y : Str} {tl th : TO} {lo hi : Option Int} (h : Ev te σ G M M1 cS z) (hl : EvO tl σ G M1 M2 lo) (hh : EvO th σ G M2 M3 hi) (hy : cutSP z lo hi = some y) : Ev (tSl rSlS te tl th) σ G M M3 cS y := fun G1 H1 e S Q q =>
  h G1 H1 e S _ fun v G2 H2 e2 S2 r => hl G2 H2 (e.trans e2) S2 _ fun G3 H3 e3 S3 => hh G3 H3 ((e.trans e2).trans e3) S3 _ fun G4 H4 e4 S4 => by
    obtain ⟨h1, rfl⟩ := ite_some hy
    cases r
    exact ⟨z, rfl, h1, q _ G4 H4 ((e2.trans e3).trans e4) S4 rfl⟩
theorem ev_catS {x y z : Str} (ha : Ev ta σ G M M1 cS x) (hb : Ev tb σ G M1 M2 cS y) (h : catS x y = some z) : Ev (tOp (fun x y H Q => ∃ i j, x = V.str i ∧ y = V.str j ∧ i.length + j.length ≤ sizeLine ∧ Q (V.str (i ++ j)) H) ta tb) σ G M M2 cS z := by
  obtain ⟨h1, rfl⟩ := ite_some h
  exact ev_op ha hb fun H Q q => ⟨x, y, rfl, rfl, h1, q⟩
/-! ### walks -/
structure Wk (J : It) (G : Hp) {α : Type} (c : Cod α) (ds : List α) : Prop where
  go : ∀ i H G' M, Le G G' → Sta G' M H → i < ds.length → J.go i H
  stop : ∀ i H G' M, Le G G' → Sta G' M H → ds.length ≤ i → J.stop i H
  yld : ∀ i H G' M x H', Le G G' → Sta G' M H → i < ds.length → J.yld i H x H' → ∃ d G'', ds[i]? = some d ∧ Le G' G'' ∧ Sta G'' M H' ∧ c.r G'' x d
theorem wk_list {a : Addr} {xs : List V} {ds : List α} (h : G a = some (.lst xs)) (r : All2 c G xs ds) : Wk (Itl K a) G c ds where
  go := fun i H G' M e S hi => by
    have q : i < xs.length := by rw [r.length]; exact hi
    exact ⟨xs, xs[i], SqL.of ((e.trans S.g).lst h), by simp [q]⟩
  stop := fun i H G' M e S hi => ⟨xs, SqL.of ((e.trans S.g).lst h), by rw [r.length]; exact hi⟩
  yld := fun i H G' M x H' e S _ ⟨e1, y⟩ => by
    subst e1
    obtain ⟨d, h1, h2⟩ := All2.getV r (y xs (SqL.of ((e.trans S.g).lst h)))
    exact ⟨d, G', h1, Le.refl _, S, c.mono e h2⟩
theorem wk_tuple {a : Addr} {xs : List V} {ds : List α} (h : G a = some (.tup xs)) (r : All2 c G xs ds) : Wk (Itt K a) G c ds where
  go := fun i H G' M e S hi => by
    have q : i < xs.length := by rw [r.length]; exact hi
    exact ⟨xs, xs[i], .inl (.inl ((e.trans S.g).tup h)), by simp [q]⟩
  stop := fun i H G' M e S hi => ⟨xs, .inl (.inl ((e.trans S.g).tup h)), by rw [r.length]; exact hi⟩
  yld := fun i H G' M x H' e S _ ⟨e1, y⟩ => by
    subst e1
    obtain ⟨d, h1, h2⟩ := All2.getV r (y xs (.inl (.inl ((e.trans S.g).tup h))))
    exact ⟨d, G', h1, Le.refl _, S, c.mono e h2⟩
def enumD {α : Type} (ds : List α) : List (Int × α) := ds.zipIdx.map fun p => ((p.2 : Int), p.1)
theorem enumD_get {ds : List α} {i : Nat} {d : α} (h : ds[i]? = some d) : (enumD ds)[i]? = some ((i : Int), d) := by
  unfold enumD
  rw [List.getElem?_map, List.getElem?_zipIdx, h]
  simp
theorem enumD_len {ds : List α} : (enumD ds).length = ds.length := by simp [enumD]
theorem wk_enum {a : Addr} {xs : List V} {ds : List α} (h : G a = some (.lst xs)) (r : All2 c G xs ds) : Wk (Ite K a) G (cT2 cI c) (enumD ds) where
  go := fun i H G' M e S hi => by
    have q : i < xs.length := by rw [r.length, ← enumD_len (ds := ds)]; exact hi
    exact ⟨xs, xs[i], SqL.of ((e.trans S.g).lst h), by simp [q]⟩
  stop := fun i H G' M e S hi => ⟨xs, SqL.of ((e.trans S.g).lst h), by rw [r.length, ← enumD_len (ds := ds)]; exact hi⟩
  yld := fun i H G' M x H' e S _ ⟨T, y, e1, hT, e2, hy⟩ => by
    subst e1 e2
    obtain ⟨d, h1, h2⟩ := All2.getV r (hy xs (SqL.of ((e.trans S.g).lst h)))
    have l := le_new (G := G') (o := .tup [.int (i : Int), y]) (S.freshG hT)
    exact ⟨_, upd G' T (.tup [.int (i : Int), y]), enumD_get h1, l, S.newG hT, T, _, _, rfl, upd_same, rfl, c.mono (e.trans l) h2⟩
theorem zip_get {ds : List α} {es : List β} {i : Nat} {d : α} {x : β} (h : ds[i]? = some d) (h2 : es[i]? = some x) : (ds.zip es)[i]? = some (d, x) := by
  rw [List.getElem?_zip_eq_some]
  exact ⟨h, h2⟩
theorem wk_zip {a b : Addr} {xs ys : List V} {ds : List α} {es : List β} {c2 : Cod β} (h : G a = some (.lst xs)) (h2 : G b = some (.lst ys)) (r : All2 c G xs ds) (r2 : All2 c2 G ys es) : Wk (Itz K a b) G (cT2 c c2) (ds.zip es) where
  go := fun i H G' M e S hi => by
    rw [List.length_zip] at hi
    have q : i < xs.length := by rw [r.length]; omega
    have q2 : i < ys.length := by rw [r2.length]; omega
    exact ⟨xs, ys, xs[i], ys[i], SqL.of ((e.trans S.g).lst h), SqL.of ((e.trans S.g).lst h2), by simp [q], by simp [q2]⟩
  stop := fun i H G' M e S hi => by
    rw [List.length_zip] at hi
    refine ⟨xs, ys, SqL.of ((e.trans S.g).lst h), SqL.of ((e.trans S.g).lst h2), ?_⟩
    rw [r.length, r2.length]
    omega
  yld := fun i H G' M x H' e S _ ⟨T, y, z, e1, hT, e2, hy, hz⟩ => by
    subst e1 e2
    obtain ⟨d, h3, h4⟩ := All2.getV r (hy xs (SqL.of ((e.trans S.g).lst h)))
    obtain ⟨d2, h5, h6⟩ := All2.getV r2 (hz ys (SqL.of ((e.trans S.g).lst h2)))
    have l := le_new (G := G') (o := .tup [y, z]) (S.freshG hT)
    exact ⟨_, upd G' T (.tup [y, z]), zip_get h3 h5, l, S.newG hT, T, _, _, rfl, upd_same, c.mono (e.trans l) h4, c2.mono (e.trans l) h6⟩
def rangeD (lo : Int) (n : Nat) : List Int := (List.range n).map fun (i : Nat) => lo + (i : Int)
theorem rangeD_get {lo : Int} {n i : Nat} (h : i < n) : (rangeD lo n)[i]? = some (lo + (i : Int)) := by simp [rangeD, h]
theorem rangeD_len {lo : Int} {n : Nat} : (rangeD lo n).length = n := by simp [rangeD]
theorem wk_range {lo : Int} {n : Nat} : Wk (Itr lo n) G cI (rangeD lo n) where
  go := fun i H G' M e S hi => by rw [rangeD_len] at hi; exact hi
  stop := fun i H G' M e S hi => by rw [rangeD_len] at hi; exact hi
  yld := fun i H G' M x H' e S hi ⟨e1, y⟩ => by
    subst e1
    rw [rangeD_len] at hi
    exact ⟨_, G', rangeD_get hi, Le.refl _, S, y⟩
/-- what a for walks -/
def EvI (wi : TI) (σ : St) (G M M' : Hp) {α : Type} (c : Cod α) (ds : List α) : Prop :=
  ∀ G1 H1, Le G G1 → Sta G1 M H1 → ∀ R : It → Hp → Prop, (∀ J G2 H2, Le G1 G2 → Sta G2 M' H2 → Wk J G2 c ds → R J H2) → wi σ H1 R
theorem ew_list {ds : List α} (h : Ev te σ G M M1 (cL c) ds) : EvI (iList K te) σ G M M1 c ds := fun G1 H1 e S R q => h G1 H1 e S _ fun v G2 H2 e2 S2 ⟨a, xs, r1, r2, r3⟩ => ⟨a, r1, ⟨xs, SqL.of (S2.g.lst r2)⟩, q _ G2 H2 e2 S2 (wk_list r2 r3)⟩
theorem ew_tup {ds : List α} (h : Ev te σ G M M1 (cTs c) ds) : EvI (iTup K te) σ G M M1 c ds := fun G1 H1 e S R q => h G1 H1 e S _ fun v G2 H2 e2 S2 ⟨a, xs, r1, r2, r3⟩ => ⟨a, r1, ⟨xs, .inl (.inl (S2.g.tup r2))⟩, q _ G2 H2 e2 S2 (wk_tuple r2 r3)⟩
theorem ew_range1 {n : Int} (h : Ev te σ G M M1 cI n) (hn : -2 ^ 62 ≤ n ∧ n < 2 ^ 62) : EvI (iRng1 (tCons te tNil)) σ G M M1 cI (rangeD 0 n.toNat) := fun G1 H1 e S R q => h G1 H1 e S _ fun v G2 H2 e2 S2 r => by
  cases r
  exact ⟨n, rfl, hn.1, hn.2, q _ G2 H2 e2 S2 wk_range⟩
theorem ew_range2 {m n : Int} (h : Ev ta σ G M M1 cI m) (h2 : Ev tb σ G M1 M2 cI n) (hn : -2 ^ 62 ≤ m ∧ m < 2 ^ 62 ∧ -2 ^ 62 ≤ n ∧ n < 2 ^ 62) : EvI (iRng2 (tCons ta (tCons tb tNil))) σ G M M2 cI (rangeD m (n - m).toNat) := fun G1 H1 e S R q => h G1 H1 e S _ fun v G2 H2 e2 S2 r => h2 G2 H2 (e.trans e2) S2 _ fun v3 G3 H3 e3 S3 r3 => by
  cases r
  cases r3
  exact ⟨m, n, rfl, hn, q _ G3 H3 (e2.trans e3) S3 wk_range⟩
theorem ew_enum {ds : List α} (h : Ev te σ G M M1 (cL c) ds) : EvI (iEnum K (tCons te tNil)) σ G M M1 (cT2 cI c) (enumD ds) := fun G1 H1 e S R q => h G1 H1 e S _ fun v G2 H2 e2 S2 ⟨a, xs, r1, r2, r3⟩ => ⟨a, xs, by rw [r1], SqL.of (S2.g.lst r2), q _ G2 H2 e2 S2 (wk_enum r2 r3)⟩
theorem ew_zip {ds : List α} {es : List β} {c2 : Cod β} (h : Ev ta σ G M M1 (cL c) ds) (h2 : Ev tb σ G M1 M2 (cL c2) es) : EvI (iZip K (tCons ta (tCons tb tNil))) σ G M M2 (cT2 c c2) (ds.zip es) := fun G1 H1 e S R q => h G1 H1 e S _ fun v G2 H2 e2 S2 ⟨a, xs, r1, r2, r3⟩ => h2 G2 H2 (e.trans e2) S2 _ fun v3 G3 H3 e3 S3 ⟨b, ys, q1, q2, q3⟩ =>
  ⟨a, b, xs, ys, by rw [r1, q1], SqL.of ((e3.trans S3.g).lst r2), SqL.of (S3.g.lst q2), q _ G3 H3 (e2.trans e3) S3 (wk_zip (e3.lst r2) q2 (r3.mono e3) q3)⟩
/-! ### for -/
def foldO {α τ : Type} (f : τ → α → Option τ) : List α → τ → Option τ
  | [], t => some t
  | a :: l, t => (f t a).bind (foldO f l)
theorem foldO_snoc {f : τ → α → Option τ} : ∀ (l : List α) (a : α) (t : τ), foldO f (l ++ [a]) t = (foldO f l t).bind fun t' => f t' a
  | [], a, t => by
    show (f t a).bind (foldO f []) = f t a
    cases f t a <;> rfl
  | b :: l, a, t => by
    show (f t b).bind (foldO f (l ++ [a])) = ((f t b).bind (foldO f l)).bind fun t' => f t' a
    cases f t b with
    | none => rfl
    | some u => exact foldO_snoc l a u
/-- what a loop's turn leaves: leaves early with r, or goes on with t -/
inductive Fl (ρ τ : Type) where
  | rt (r : ρ)
  | nx (t : τ)
def foldF {α τ ρ : Type} (f : τ → α → Option (Fl ρ τ)) : List α → τ → Option (Fl ρ τ)
  | [], t => some (.nx t)
  | a :: l, t => (f t a).bind fun
    | .nx t' => foldF f l t'
    | .rt r => some (.rt r)
theorem s_for {ρ : Type} {g : TG} {tw : TS} {wi : TI} {ds : List α} {f : τ → α → Option (Fl ρ τ)} {t0 : τ} {fl : Fl ρ τ} (hw : EvI wi σ G M M1 c ds) (S : Sta G M H) (hf : foldF f ds t0 = some fl) (Rel : τ → Hp → Hp → St → Prop)
    (h0 : ∀ G1, Le G G1 → Rel t0 G1 M1 σ)
    (turn : ∀ t a x G0 G1 M2 H1 σ1 fl', Le G G0 → Le G0 G1 → Sta G1 M2 H1 → Rel t G0 M2 σ1 → c.r G1 x a → f t a = some fl' → (∀ r, fl' = .rt r → fl = .rt r) →
      g x σ1 H1 fun σ2 H2 => tw { D with nx := fun σ' H' => ∃ t' G' M', fl' = .nx t' ∧ Le G0 G' ∧ Sta G' M' H' ∧ Rel t' G' M' σ', ct := fun σ' H' => ∃ t' G' M', fl' = .nx t' ∧ Le G0 G' ∧ Sta G' M' H' ∧ Rel t' G' M' σ', bk := D.nx } σ2 H2)
    (done : ∀ t G1 M2 H1 σ1, Le G G1 → Sta G1 M2 H1 → Rel t G1 M2 σ1 → fl = .nx t → D.nx σ1 H1) : tFor wi g tw D σ H :=
  hw G H (Le.refl G) S _ fun J G2 H2 e2 S2 wk => by
    refine ⟨fun i m σ' H' => ∃ t G' M', m = ds.length - i ∧ i ≤ ds.length ∧ Le G2 G' ∧ Sta G' M' H' ∧ Rel t G' M' σ' ∧ foldF f (ds.drop i) t = some fl, ⟨ds.length, t0, G2, M1, by simp, Nat.zero_le _, Le.refl _, S2, h0 G2 e2, hf⟩, ?_⟩
    rintro i m σ' H' ⟨t, G', M', rfl, hi, e', S', r', hq⟩
    by_cases hlt : i < ds.length
    · refine .inr ⟨wk.go i H' G' M' e' S' hlt, ?_⟩
      have hd : ds.drop i = ds[i] :: ds.drop (i + 1) := by rw [List.drop_eq_getElem_cons hlt]
      rw [hd] at hq
      cases hfa : f t ds[i] with
      | none =>
        unfold foldF at hq
        rw [hfa] at hq
        cases hq
      | some fl' =>
        unfold foldF at hq
        rw [hfa] at hq
        refine ⟨fun σ3 H3 => ∃ t' G3 M3, fl' = .nx t' ∧ Le G' G3 ∧ Sta G3 M3 H3 ∧ Rel t' G3 M3 σ3, ?_, ?_⟩
        · rintro σ3 H3 ⟨t', G3, M3, rfl, e3', S3, r3⟩
          exact ⟨ds.length - (i + 1), by omega, t', G3, M3, rfl, hlt, e'.trans e3', S3, r3, hq⟩
        · intro x H3 hy
          obtain ⟨d, G3, hd3, e3, S3, r3⟩ := wk.yld i H' G' M' x H3 e' S' hlt hy
          have ed : ds[i] = d := by
            rw [List.getElem?_eq_getElem hlt] at hd3
            exact Option.some.inj hd3
          rw [ed] at hfa
          exact turn t d x G' G3 M' H3 σ' fl' (e2.trans e') e3 S3 r' r3 hfa fun r er => by
            subst er
            exact (Option.some.inj hq).symm
    · have e : ds.drop i = [] := List.drop_eq_nil_of_le (by omega)
      rw [e] at hq
      exact .inl ⟨wk.stop i H' G' M' e' S' (by omega), done t G' M' H' σ' (e2.trans e') S' r' (Option.some.inj hq).symm⟩
/-- a loop that goes through -/
theorem foldF_nx {ρ : Type} {f : τ → α → Option τ} : ∀ (l : List α) (t : τ), foldF (ρ := ρ) (fun t a => (f t a).map Fl.nx) l t = (foldO f l t).map Fl.nx
  | [], t => rfl
  | a :: l, t => by
    unfold foldF foldO
    cases f t a with
    | none => rfl
    | some u => exact foldF_nx l u
theorem s_forO {g : TG} {tw : TS} {wi : TI} {ds : List α} {f : τ → α → Option τ} {t0 t1 : τ} (hw : EvI wi σ G M M1 c ds) (S : Sta G M H) (hf : foldO f ds t0 = some t1) (Rel : τ → Hp → Hp → St → Prop)
    (h0 : ∀ G1, Le G G1 → Rel t0 G1 M1 σ)
    (turn : ∀ t t' a x G0 G1 M2 H1 σ1, Le G G0 → Le G0 G1 → Sta G1 M2 H1 → Rel t G0 M2 σ1 → c.r G1 x a → f t a = some t' →
      g x σ1 H1 fun σ2 H2 => tw { D with nx := fun σ' H' => ∃ G' M', Le G0 G' ∧ Sta G' M' H' ∧ Rel t' G' M' σ', ct := fun σ' H' => ∃ G' M', Le G0 G' ∧ Sta G' M' H' ∧ Rel t' G' M' σ', bk := D.nx } σ2 H2)
    (done : ∀ G1 M2 H1 σ1, Le G G1 → Sta G1 M2 H1 → Rel t1 G1 M2 σ1 → D.nx σ1 H1) : tFor wi g tw D σ H :=
  hw G H (Le.refl G) S _ fun J G2 H2 e2 S2 wk => by
    refine ⟨fun i m σ' H' => ∃ t G' M', m = ds.length - i ∧ i ≤ ds.length ∧ Le G2 G' ∧ Sta G' M' H' ∧ Rel t G' M' σ' ∧ foldO f (ds.drop i) t = some t1, ⟨ds.length, t0, G2, M1, by simp, Nat.zero_le _, Le.refl _, S2, h0 G2 e2, hf⟩, ?_⟩
    rintro i m σ' H' ⟨t, G', M', rfl, hi, e', S', r', hq⟩
    by_cases hlt : i < ds.length
    · refine .inr ⟨wk.go i H' G' M' e' S' hlt, ?_⟩
      have hd : ds.drop i = ds[i] :: ds.drop (i + 1) := by rw [List.drop_eq_getElem_cons hlt]
      rw [hd] at hq
      cases hfa : f t ds[i] with
      | none =>
        unfold foldO at hq
        rw [hfa] at hq
        cases hq
      | some t' =>
        unfold foldO at hq
        rw [hfa] at hq
        refine ⟨fun σ3 H3 => ∃ G3 M3, Le G' G3 ∧ Sta G3 M3 H3 ∧ Rel t' G3 M3 σ3, ?_, ?_⟩
        · rintro σ3 H3 ⟨G3, M3, e3', S3, r3⟩
          exact ⟨ds.length - (i + 1), by omega, t', G3, M3, rfl, hlt, e'.trans e3', S3, r3, hq⟩
        · intro x H3 hy
          obtain ⟨d, G3, hd3, e3, S3, r3⟩ := wk.yld i H' G' M' x H3 e' S' hlt hy
          have ed : ds[i] = d := by
            rw [List.getElem?_eq_getElem hlt] at hd3
            exact Option.some.inj hd3
          rw [ed] at hfa
          exact turn t t' d x G' G3 M' H3 σ' (e2.trans e') e3 S3 r' r3 hfa
    · have e : ds.drop i = [] := List.drop_eq_nil_of_le (by omega)
      rw [e] at hq
      have ht : t = t1 := Option.some.inj hq
      subst ht
      exact .inl ⟨wk.stop i H' G' M' e' S' (by omega), done G' M' H' σ' (e2.trans e') S' r'⟩
/-! ### while -/
inductive Wf (ρ τ : Type) where
  | stop (t : τ)
  | next (t : τ)
  | rt (r : ρ)
def whileN {ρ τ : Type} (step : τ → Option (Wf ρ τ)) : Nat → τ → Option (Fl ρ τ)
  | 0, _ => none
  | n + 1, t => match step t with
    | none => none
    | some (.stop t') => some (.nx t')
    | some (.next t') => whileN step n t'
    | some (.rt r) => some (.rt r)
theorem whileN_mono {ρ : Type} {step : τ → Option (Wf ρ τ)} : ∀ {n m : Nat} {t : τ} {r}, n ≤ m → whileN step n t = some r → whileN step m t = some r
  | 0, _, _, _, _, h => by cases h
  | n + 1, 0, _, _, hm, _ => by omega
  | n + 1, m + 1, t, r, hm, h => by
    unfold whileN at h ⊢
    cases e : step t with
    | none => rw [e] at h; cases h
    | some w =>
      rw [e] at h
      cases w with
      | stop t' => exact h
      | next t' => exact whileN_mono (n := n) (m := m) (by omega) h
      | rt q => exact h
open Classical in
noncomputable def whileO {ρ τ : Type} (step : τ → Option (Wf ρ τ)) (t : τ) : Option (Fl ρ τ) :=
  if h : ∃ n r, whileN step n t = some r then some h.choose_spec.choose else none
theorem whileO_of {ρ : Type} {step : τ → Option (Wf ρ τ)} {n : Nat} {t : τ} {r} (h : whileN step n t = some r) : whileO step t = some r := by
  unfold whileO
  have ex : ∃ n r, whileN step n t = some r := ⟨n, r, h⟩
  rw [dif_pos ex]
  have q := ex.choose_spec.choose_spec
  rcases Nat.le_total n ex.choose with hn | hn
  · exact (((whileN_mono hn h).symm.trans q)).symm
  · exact ((whileN_mono hn q).symm.trans h)
theorem of_whileO {ρ : Type} {step : τ → Option (Wf ρ τ)} {t : τ} {r} (h : whileO step t = some r) : ∃ n, whileN step n t = some r := by
  unfold whileO at h
  by_cases ex : ∃ n r, whileN step n t = some r
  · rw [dif_pos ex] at h
    have q := ex.choose_spec.choose_spec
    rw [Option.some.inj h] at q
    exact ⟨_, q⟩
  · rw [dif_neg ex] at h
    cases h
theorem s_while {ρ : Type} {tt : TT} {tw : TS} {step : τ → Option (Wf ρ τ)} {t0 : τ} {fl : Fl ρ τ} (S : Sta G M H) (hf : whileO step t0 = some fl) (Rel : τ → Hp → Hp → St → Prop) (h0 : Rel t0 G M σ)
    (turn : ∀ t w G0 M0 H0 σ0, Le G G0 → Sta G0 M0 H0 → Rel t G0 M0 σ0 → step t = some w → (∀ r, w = .rt r → fl = .rt r) → (∀ t', w = .stop t' → fl = .nx t') →
      ∃ b M1, EvT tt σ0 G0 M0 M1 b ∧ (b = true → ∀ G1 H1, Le G0 G1 → Sta G1 M1 H1 →
        tw { D with nx := fun σ' H' => ∃ t' G' M', w = .next t' ∧ Le G0 G' ∧ Sta G' M' H' ∧ Rel t' G' M' σ', ct := fun σ' H' => ∃ t' G' M', w = .next t' ∧ Le G0 G' ∧ Sta G' M' H' ∧ Rel t' G' M' σ', bk := D.nx } σ0 H1) ∧
        (b = false → ∀ G1 H1, Le G0 G1 → Sta G1 M1 H1 → D.nx σ0 H1)) : tWhile tt tw D σ H := by
  obtain ⟨n, hn⟩ := of_whileO hf
  refine ⟨fun m σ' H' => ∃ t G' M', Le G G' ∧ Sta G' M' H' ∧ Rel t G' M' σ' ∧ whileN step m t = some fl, ⟨n, t0, G, M, Le.refl _, S, h0, hn⟩, ?_⟩
  rintro m σ' H' ⟨t, G', M', e', S', r', hq⟩
  cases m with
  | zero => cases hq
  | succ m =>
    unfold whileN at hq
    cases hs : step t with
    | none => rw [hs] at hq; cases hq
    | some w =>
      rw [hs] at hq
      obtain ⟨b, M1, hb, k1, k2⟩ := turn t w G' M' H' σ' e' S' r' hs (fun r er => by subst er; exact (Option.some.inj hq).symm) (fun t' er => by subst er; exact (Option.some.inj hq).symm)
      refine hb G' H' (Le.refl _) S' _ fun G2 H2 e2 S2 => ?_
      cases b with
      | false =>
        rw [if_neg Bool.false_ne_true]
        exact k2 rfl G2 H2 e2 S2
      | true =>
        rw [if_pos rfl]
        refine ⟨_, ?_, k1 rfl G2 H2 e2 S2⟩
        rintro σ3 H3 ⟨t', G3, M3, rfl, e3, S3, r3⟩
        exact ⟨m, Nat.lt_succ_self _, t', G3, M3, e'.trans e3, S3, r3, hq⟩
/-! ### comprehensions -/
/-- any expression: what it gives, if it is a list, is not too long -/
def tBd (K : PySem.W.Frag) (t : TE) : TE := fun σ H Q => t σ H fun x H1 => (∀ a xs, x = .ref a → (SqL K H1 a xs ∨ SqT K H1 a xs) → xs.length ≤ sizeLine) → Q x H1
theorem pe_bd {X : Cx} {e : Expr} {t : TE} (h : PE X e t) : PE X e (tBd X.K t) := ⟨fun pins s σ H Q I q => thn (h.run pins s σ H _ I q) fun v s1 ⟨x, H1, I1, r, q1⟩ => ⟨x, H1, I1, r, q1 fun a xs _ h => by
  rcases h with h | h
  · obtain ⟨_, _, _, z⟩ := I1.list h
    exact z
  · obtain ⟨_, _, _, z⟩ := I1.tuple h
    exact z⟩⟩
/-- .. and how long it is -/
def EvIB (wi : TI) (σ : St) (G M M' : Hp) {α : Type} (c : Cod α) (ds : List α) : Prop :=
  ∀ G1 H1, Le G G1 → Sta G1 M H1 → ∀ R : It → Hp → Prop, (∀ J G2 H2, Le G1 G2 → Sta G2 M' H2 → Wk J G2 c ds → ds.length ≤ sizeLine → R J H2) → wi σ H1 R
theorem ew_listB {ds : List α} (h : Ev te σ G M M1 (cL c) ds) : EvIB (iList K (tBd K te)) σ G M M1 c ds := fun G1 H1 e S R q => h G1 H1 e S _ fun v G2 H2 e2 S2 ⟨a, xs, r1, r2, r3⟩ b => ⟨a, r1, ⟨xs, SqL.of (S2.g.lst r2)⟩, q _ G2 H2 e2 S2 (wk_list r2 r3) (by rw [← r3.length]; exact b a xs r1 (.inl (SqL.of (S2.g.lst r2))))⟩
theorem ew_tupB {ds : List α} (h : Ev te σ G M M1 (cTs c) ds) : EvIB (iTup K (tBd K te)) σ G M M1 c ds := fun G1 H1 e S R q => h G1 H1 e S _ fun v G2 H2 e2 S2 ⟨a, xs, r1, r2, r3⟩ b =>
  have z : SqT K H2 a xs := .inl (.inl (S2.g.tup r2))
  ⟨a, r1, ⟨xs, z⟩, q _ G2 H2 e2 S2 (wk_tuple r2 r3) (by rw [← r3.length]; exact b a xs r1 (.inr z))⟩
def rangeB (n : Int) : Option (List Int) := if -2 ^ 62 ≤ n ∧ n ≤ 16777216 then some (rangeD 0 n.toNat) else none
theorem ew_range1B {n : Int} {ds : List Int} (h : Ev te σ G M M1 cI n) (hn : rangeB n = some ds) : EvIB (iRng1 (tCons te tNil)) σ G M M1 cI ds := fun G1 H1 e S R q => h G1 H1 e S _ fun v G2 H2 e2 S2 r => by
  cases r
  obtain ⟨h1, rfl⟩ := ite_some hn
  exact ⟨n, rfl, h1.1, by omega, q _ G2 H2 e2 S2 wk_range (by rw [rangeD_len, sizeLine_eq]; omega)⟩
theorem ew_enumB {ds : List α} (h : Ev te σ G M M1 (cL c) ds) : EvIB (iEnum K (tCons (tBd K te) tNil)) σ G M M1 (cT2 cI c) (enumD ds) := fun G1 H1 e S R q => h G1 H1 e S _ fun v G2 H2 e2 S2 ⟨a, xs, r1, r2, r3⟩ b => ⟨a, xs, by rw [r1], SqL.of (S2.g.lst r2), q _ G2 H2 e2 S2 (wk_enum r2 r3) (by rw [enumD_len, ← r3.length]; exact b a xs r1 (.inl (SqL.of (S2.g.lst r2))))⟩
theorem ew_zipB {ds : List α} {es : List β} {c2 : Cod β} (h : Ev ta σ G M M1 (cL c) ds) (h2 : Ev tb σ G M1 M2 (cL c2) es) : EvIB (iZip K (tCons (tBd K ta) (tCons tb tNil))) σ G M M2 (cT2 c c2) (ds.zip es) := fun G1 H1 e S R q => h G1 H1 e S _ fun v G2 H2 e2 S2 ⟨a, xs, r1, r2, r3⟩ bd => h2 G2 H2 (e.trans e2) S2 _ fun v3 G3 H3 e3 S3 ⟨b, ys, q1, q2, q3⟩ =>
  ⟨a, b, xs, ys, by rw [r1, q1], SqL.of ((e3.trans S3.g).lst r2), SqL.of (S3.g.lst q2), q _ G3 H3 (e2.trans e3) S3 (wk_zip (e3.lst r2) q2 (r3.mono e3) q3) (by
    have z := bd a xs r1 (.inl (SqL.of (S2.g.lst r2)))
    rw [List.length_zip, ← r3.length]
    omega)⟩
/-- f gives what is appended, if anything -/
def lcP {α β : Type} (f : α → Option (Option β)) : List α → Option (List β)
  | [] => some []
  | a :: l => (f a).bind fun ob => (lcP f l).map fun r => ob.toList ++ r
theorem lcP_snoc {f : α → Option (Option β)} : ∀ {l : List α} {a : α} {out : List β} {ob : Option β}, lcP f l = some out → f a = some ob → lcP f (l ++ [a]) = some (out ++ ob.toList)
  | [], a, out, ob, h, h2 => by
    cases h
    show (f a).bind _ = _
    rw [h2]
    simp [lcP]
  | b :: l, a, out, ob, h, h2 => by
    unfold lcP at h
    cases e : f b with
    | none => rw [e] at h; cases h
    | some ob' =>
      rw [e] at h
      cases e2 : lcP f l with
      | none => rw [e2] at h; cases h
      | some r =>
        rw [e2] at h
        cases h
        show (f b).bind (fun ob => (lcP f (l ++ [a])).map fun r => ob.toList ++ r) = _
        rw [e, lcP_snoc e2 h2]
        simp
theorem lcP_map {f : α → β} : ∀ l : List α, lcP (fun a => some (some (f a))) l = some (l.map f)
  | [] => rfl
  | a :: l => by
    show ((some (some (f a))).bind fun ob => (lcP (fun a => some (some (f a))) l).map fun r => ob.toList ++ r) = _
    rw [lcP_map l]
    rfl
theorem lcP_filter {p : α → Bool} {f : α → β} : ∀ l : List α, lcP (fun a => some (if p a = true then some (f a) else none)) l = some ((l.filter p).map f)
  | [] => rfl
  | a :: l => by
    show ((some (if p a = true then some (f a) else none)).bind fun ob => (lcP (fun a => some (if p a = true then some (f a) else none)) l).map fun r => ob.toList ++ r) = _
    rw [lcP_filter l]
    cases h : p a with
    | true => simp [h]
    | false => simp [h]
theorem lcP_len {f : α → Option (Option β)} : ∀ {l : List α} {out : List β}, lcP f l = some out → out.length ≤ l.length
  | [], _, h => by cases h; exact Nat.le_refl _
  | a :: l, out, h => by
    unfold lcP at h
    cases e : f a with
    | none => rw [e] at h; cases h
    | some ob =>
      rw [e] at h
      cases e2 : lcP f l with
      | none => rw [e2] at h; cases h
      | some r =>
        rw [e2] at h
        cases h
        have z := lcP_len e2
        cases ob <;> simp <;> omega
theorem lcP_take {f : α → Option (Option β)} : ∀ {l : List α} {out : List β} (i : Nat), lcP f l = some out → ∃ o, lcP f (l.take i) = some o
  | _, _, 0, _ => ⟨[], by simp [lcP]⟩
  | [], _, _ + 1, _ => ⟨[], by simp [lcP]⟩
  | a :: l, out, i + 1, h => by
    unfold lcP at h
    cases e : f a with
    | none => rw [e] at h; cases h
    | some ob =>
      rw [e] at h
      cases e2 : lcP f l with
      | none => rw [e2] at h; cases h
      | some r =>
        obtain ⟨o, ho⟩ := lcP_take i e2
        refine ⟨ob.toList ++ o, ?_⟩
        show (f a).bind (fun ob => (lcP f (l.take i)).map fun r => ob.toList ++ r) = _
        rw [e, ho]
        rfl
theorem lcP_at {f : α → Option (Option β)} : ∀ {l : List α} {out : List β} {a : α}, lcP f l = some out → a ∈ l → ∃ ob, f a = some ob
  | [], _, _, _, h => by cases h
  | b :: l, out, a, h, hm => by
    unfold lcP at h
    cases e : f b with
    | none => rw [e] at h; cases h
    | some ob =>
      rw [e] at h
      cases e2 : lcP f l with
      | none => rw [e2] at h; cases h
      | some r =>
        rcases List.mem_cons.mp hm with rfl | hm
        · exact ⟨ob, e⟩
        · exact lcP_at e2 hm
theorem same_newM {p : Addr} {o : HO} (h : M p = none) : Same M (upd M p o) := same_new h
theorem en_lc {cb : Cod β} {g : TG} {tt : TT} {wi : TI} {vs : List Nat} {ds : List α} {f : α → Option (Option β)} {out : List β} (hw : EvIB wi σ G M M1 c ds) (hf : lcP f ds = some out)
    (turn : ∀ a x G1 H1 ob, a ∈ ds → Le G G1 → Le G1 H1 → c.r G1 x a → f a = some ob →
      g x (wipe σ vs) H1 fun σ2 H2 => H2 = H1 ∧ wipe σ2 vs = wipe σ vs ∧ ∀ Mo, Same M1 Mo → ∃ b, EvT tt σ2 G1 Mo Mo b ∧ (b = true → ∃ y, ob = some y ∧ Ev te σ2 G1 Mo Mo cb y) ∧ (b = false → ob = none))
    (gmono : ∀ x H1 (P P' : St → Hp → Prop), (∀ σ2 H2, P σ2 H2 → P' σ2 H2) → g x (wipe σ vs) H1 P → g x (wipe σ vs) H1 P') :
    EvN (tLc wi g tt te vs) σ G M M1 (isL cb out) := fun G0 H0 e0 S0 Q q =>
  hw G0 H0 e0 S0 _ fun J G2 H2 e2 S2 wk hz Dl hD => by
    refine ⟨fun i m H' => ∃ G' acc o, m = ds.length - i ∧ i ≤ ds.length ∧ Le G2 G' ∧ Sta G' (upd M1 Dl (.lst acc)) H' ∧ All2 cb G' acc o ∧ lcP f (ds.take i) = some o, ⟨ds.length, G2, [], [], by simp, Nat.zero_le _, Le.refl _, S2.newM hD, trivial, by simp [lcP]⟩, ?_⟩
    rintro i m H' ⟨G', acc, o, rfl, hi, e', S', r', hq⟩
    have mD := S2.freshM hD
    by_cases hlt : i < ds.length
    · refine .inr ⟨wk.go i H' G' _ e' S' hlt, fun H3 => ∃ G3 acc o, Le G' G3 ∧ Sta G3 (upd M1 Dl (.lst acc)) H3 ∧ All2 cb G3 acc o ∧ lcP f (ds.take (i + 1)) = some o, ?_, ?_⟩
      · rintro H3 ⟨G3, acc3, o3, e3, S3, r3, q3⟩
        exact ⟨ds.length - (i + 1), by omega, G3, acc3, o3, rfl, hlt, e'.trans e3, S3, r3, q3⟩
      · intro x H3 hy
        obtain ⟨d, G3, hd3, e3, S3, r3⟩ := wk.yld i H' G' _ x H3 e' S' hlt hy
        have hm : d ∈ ds := List.mem_of_getElem? hd3
        obtain ⟨ob, hob⟩ := lcP_at hf hm
        have ht : ds.take (i + 1) = ds.take i ++ [d] := by
          rw [List.take_add_one, hd3]
          rfl
        have hsn := lcP_snoc hq hob
        rw [← ht] at hsn
        have hal : acc.length < sizeLine := by
          have z1 := lcP_len hq
          rw [List.length_take] at z1
          rw [r'.length]
          omega
        refine gmono x H3 _ _ ?_ (turn d x G3 H3 ob hm ((e0.trans e2).trans (e'.trans e3)) S3.g r3 hob)
        rintro σ2 H4 ⟨rfl, hwp, hb⟩
        obtain ⟨b, hb, k1, k2⟩ := hb (upd M1 Dl (.lst acc)) (same_newM mD)
        refine ⟨hwp, hb G3 H4 (Le.refl _) S3 _ fun G4 H5 e4 S4 => ?_⟩
        cases b with
        | true =>
          rw [if_pos rfl]
          obtain ⟨y, rfl, hy⟩ := k1 rfl
          refine hy G4 H5 e4 S4 _ fun v G5 H6 e5 S5 r5 => ⟨acc, S5.m _ _ upd_same, hal, G5, acc ++ [v], o ++ [y], (e3.trans e4).trans e5, ?_, All2.snoc (r'.mono ((e3.trans e4).trans e5)) r5, hsn⟩
          have z := S5.put (o := .lst (acc ++ [v])) upd_same
          rw [upd_upd] at z
          exact z
        | false =>
          rw [if_neg Bool.false_ne_true]
          rw [k2 rfl] at hsn
          refine ⟨G4, acc, o, e3.trans e4, S4, r'.mono (e3.trans e4), ?_⟩
          rw [hsn]
          simp
    · have e : ds.take i = ds := List.take_of_length_le (by omega)
      rw [e, hf] at hq
      cases hq
      exact .inl ⟨wk.stop i H' G' _ e' S' (by omega), q Dl (.lst acc) G' H' (e2.trans e') mD S' ⟨acc, rfl, r'⟩⟩
/-- targets keep what is wanted -/
def Gm (g : TG) : Prop := ∀ x σ H1 (P P' : St → Hp → Prop), (∀ σ2 H2, P σ2 H2 → P' σ2 H2) → g x σ H1 P → g x σ H1 P'
theorem gm_name {i : Nat} : Gm (gName i) := fun x σ H1 P P' h q => h _ _ q
def Gms (g : TGs) : Prop := ∀ xs σ H1 (P P' : St → Hp → Prop), (∀ σ2 H2, P σ2 H2 → P' σ2 H2) → g xs σ H1 P → g xs σ H1 P'
theorem gm_nil : Gms gNil := fun xs σ H1 P P' h ⟨a, q⟩ => ⟨a, h _ _ q⟩
theorem gm_cons {t : TG} {u : TGs} (h1 : Gm t) (h2 : Gms u) : Gms (gCons t u) := fun xs σ H1 P P' h ⟨v, r, e, q⟩ => ⟨v, r, e, h1 v σ H1 _ _ (fun σ2 H2 q2 => h2 r σ2 H2 _ _ h q2) q⟩
theorem gm_tup {n : Nat} {t : TGs} (h1 : Gms t) : Gm (gTup K n t) := fun x σ H1 P P' h ⟨a, xs, e, s, l, q⟩ => ⟨a, xs, e, s, l, h1 xs σ H1 _ _ h q⟩
theorem et_yes : EvT tYes σ G M M true := fun G1 H1 e S Q q => q G1 H1 (Le.refl _) S
end
end GL
/-! GL4: defs by name, their promises, calls. -/
namespace GL
open PySem PySem.Spec PyProof.Rows L2

/-- a def of the module, by its name, and what it promises -/
structure Fn (P : Program) (w : World) (K : PySem.W.Frag) (mg : Str → Option Value) (base : Heap) (CX : CXT) (k : Nat) (x : Str) (ps : List Str) (sp : Sp) : Prop where
  ex : ∃ f fd, mg x = some (.ref f) ∧ PySem.W.keepIn K (.ref f) = true ∧ Binds K fd ps [] ∧ FnOk P w K mg base CX k f fd ps sp
theorem Fn.mono {P : Program} {w : World} {K : PySem.W.Frag} {mg : Str → Option Value} {base : Heap} {CX : CXT} {k j : Nat} {x : Str} {ps : List Str} {sp : Sp} (F : Fn P w K mg base CX k x ps sp) (h : k ≤ j) : Fn P w K mg base CX j x ps sp :=
  let ⟨f, fd, a, b, c, d⟩ := F.ex
  ⟨f, fd, a, b, c, d.mono h⟩
section
variable {X : Cx} {CX : CXT} {k : Nat} {x : Str} {ps : List Str} {sp : Sp} {E : XK} {p pos : Pos} {e : Expr} {es : List Expr} {t : TA}
theorem pe_callF (F : Fn X.prog X.w X.K X.mg X.base CX k x ps sp) (hr : Room k X.A) (hx : Passes CX X E) (ha : PA X (e :: es) t) (hg : Gl X x := by rfl) (hdb : (x == ("__debug__" : Str)) = false := by decide)
    (he : starEach (e :: es) X.env = (false, eval e X.env) :: starEach es X.env := by rfl) (hpl : (backTo pos (starEach es X.env)).any (·.1) = false := by rfl) :
    PE X (.Call (.Name x p) (e :: es) [] pos) (tCall sp [] E t) := by
  obtain ⟨f, fd, a, b, c, d⟩ := F.ex
  exact pe_call d hr hg a b c .nil hx ha hdb he hpl
end
/-- a def as the head tells it keeps its promise: by its body -/
theorem fn_by {P : Program} {w : World} {K : PySem.W.Frag} {mg : Str → Option Value} {base : Heap} {k : Nat} {x qual : Str} {N ps : List Str} {st : Stmt} {f : Addr} {sp : Sp} (hmg : mg x = some (.ref f)) (F : ∃ fd, FunD K x qual (defArgs st) (defBody st) (defScope st) [] [] f fd) (S : FnScope N ps (defScope st))
    (len : ∀ vs H Q E, sp vs H Q E → vs.length = ps.length)
    (hb : ∀ (kV doc pm : Value) (an : Option Addr) (cdv ct : Value) (us : List Value), us.length = ps.length → bindArgs (PySem.W.fnOf x qual (defArgs st) (defBody st) (defScope st) .none kV doc pm an cdv ct) ⟨us, []⟩ = pure (ps.zip us))
    (hbody : ∀ (cdv : Value) (A : Around) (outer : List Env) (s : Shared) (H : Hp) (vs : List V) (Q : VK) (E : XK), Room k (A.deeper (envOfC qual (defScope st) s.heap.objs.size f cdv)) → sp vs H Q E →
      ∃ t, PSs (cxOf CX0 P w K mg base N qual (defScope st) f cdv A outer s H E).nox (defBody st) t ∧ t { nx := fun _ H' => Q .non H', rt := Q } (start N vs) H) : Fn P w K mg base CX0 (k + 1) x ps sp := by
  obtain ⟨fd, F⟩ := F
  refine ⟨f, fd, hmg, F.kp, ?_, ?_⟩
  · exact F.bindsN hb
  · refine F.ok S len fun cdv A outer s H vs Q E hr h => ?_
    obtain ⟨t, h1, h2⟩ := hbody cdv A outer s H vs Q E hr h
    exact ⟨t, h1.nox, h2⟩
end GL
/-! GL5: rules for built-ins over what is known. -/
namespace GL
open PySem PySem.Spec L2
open PySem.W (T3 T4)
theorem bindO {α β : Type} {x : Option α} {f : α → Option β} {z : β} (h : x.bind f = some z) : ∃ a, x = some a ∧ f a = some z := by
  cases x with
  | none => cases h
  | some a => exact ⟨a, rfl, h⟩
theorem ite_T {α : Type} {b : Bool} {x y z : α} (hb : b = true) (h : (if b = true then x else y) = z) : x = z := by rw [if_pos hb] at h; exact h
theorem ite_F {α : Type} {b : Bool} {x y z : α} (hb : b = false) (h : (if b = true then x else y) = z) : y = z := by rw [if_neg (by rw [hb]; decide)] at h; exact h
theorem upd_self {M : Hp} {p : Addr} {o : HO} (h : M p = some o) : upd M p o = M := by
  funext b
  unfold upd
  by_cases hb : b = p
  · rw [if_pos hb, hb, h]
  · rw [if_neg hb]
section
variable {K : PySem.W.Frag} {α β γ τ : Type} {te ta tb tc : TE} {σ : St} {G G' M M' M1 M2 M3 H : Hp} {c : Cod α} {d : α} {D : Ends}
theorem EvN.reM (P : Hp → HO → Prop) (h : EvN te σ G M M1 P) (e : M1 = M2) : EvN te σ G M M2 P := e ▸ h
theorem EvN.up {P : Hp → HO → Prop} (e : Le G G') (h : EvN te σ G M M1 P) : EvN te σ G' M M1 P := fun G1 H1 e1 => h G1 H1 (e.trans e1)
theorem en_cat {x y z : List α} (ha : Ev ta σ G M M1 (cL c) x) (hb : Ev tb σ G M1 M2 (cL c) y) (hz : catL x y = some z) : EvN (tOp rCat ta tb) σ G M M2 (isL c z) := fun G1 H1 e S Q q =>
  ha G1 H1 e S _ fun v G2 H2 e2 S2 ⟨a, xs, h1, h2, h3⟩ => hb G2 H2 (e.trans e2) S2 _ fun u G3 H3 e3 S3 ⟨b, ys, k1, k2, k3⟩ => by
    obtain ⟨hl, rfl⟩ := ite_some hz
    exact ⟨a, b, xs, ys, h1, k1, (e3.trans S3.g).lst h2, S3.g.lst k2, by rw [h3.length, k3.length]; exact hl, fun p hp => q p _ G3 _ (e2.trans e3) (S3.freshM hp) (S3.newM hp) ⟨_, rfl, All2.append (h3.mono e3) k3⟩⟩
def rAbs : List V → Hp → VK → Prop := fun xs H Q => ∃ i, xs = [V.int i] ∧ Q (V.int (if i < 0 then -i else i)) H
theorem ev_abs {i : Int} (h : Ev ta σ G M M1 cI i) : Ev (tCB rAbs (tCons ta tNil)) σ G M M1 cI (if i < 0 then -i else i) := ev_cb1 h fun G1 H1 v Q e S r q => ⟨i, by cases r; rfl, q _ G1 H1 (Le.refl _) S rfl⟩
def rInt1 : List V → Hp → VK → Prop := fun xs H Q => (∃ i, xs = [V.int i] ∧ Q (V.int i) H) ∨ ∃ k, xs = [V.bl k] ∧ Q (V.int (if k = true then 1 else 0)) H
theorem ev_intB {b : Bool} (h : Ev ta σ G M M1 cB b) : Ev (tCB rInt1 (tCons ta tNil)) σ G M M1 cI (if b = true then 1 else 0) := ev_cb1 h fun G1 H1 v Q e S r q => .inr ⟨b, by cases r; rfl, q _ G1 H1 (Le.refl _) S rfl⟩
theorem ev_cb2 {r : List V → Hp → VK → Prop} {c1 : Cod β} {d1 : β} {c2 : Cod γ} {d2 : γ} (h : Ev ta σ G M M1 c1 d1) (h2 : Ev tb σ G M1 M2 c2 d2) (hr : ∀ G1 H1 v u Q, Le G G1 → Sta G1 M2 H1 → c1.r G1 v d1 → c2.r G1 u d2 → Ret Q G1 M3 c d → r [v, u] H1 Q) : Ev (tCB r (tCons ta (tCons tb tNil))) σ G M M3 c d := fun G1 H1 e S Q q =>
  h G1 H1 e S _ fun v G2 H2 e2 S2 r2 => h2 G2 H2 (e.trans e2) S2 _ fun u G3 H3 e3 S3 r3 => hr G3 H3 v u Q ((e.trans e2).trans e3) S3 (c1.mono e3 r2) r3 fun w G4 H4 e4 S4 r4 => q w G4 H4 ((e2.trans e3).trans e4) S4 r4
def rMax2 : List V → Hp → VK → Prop := fun xs H Q => ∃ i j, xs = [V.int i, V.int j] ∧ Q (V.int (if j > i then j else i)) H
def rMin2 : List V → Hp → VK → Prop := fun xs H Q => ∃ i j, xs = [V.int i, V.int j] ∧ Q (V.int (if j < i then j else i)) H
theorem ev_max2 {i j : Int} (h : Ev ta σ G M M1 cI i) (h2 : Ev tb σ G M1 M2 cI j) : Ev (tCB rMax2 (tCons ta (tCons tb tNil))) σ G M M2 cI (max i j) := ev_cb2 h h2 fun G1 H1 v u Q e S r r2 q => ⟨i, j, by cases r; cases r2; rfl, by
  have z : (if j > i then j else i) = max i j := by by_cases w : j > i <;> simp [w] <;> omega
  rw [z]; exact q _ G1 H1 (Le.refl _) S rfl⟩
theorem ev_min2 {i j : Int} (h : Ev ta σ G M M1 cI i) (h2 : Ev tb σ G M1 M2 cI j) : Ev (tCB rMin2 (tCons ta (tCons tb tNil))) σ G M M2 cI (min i j) := ev_cb2 h h2 fun G1 H1 v u Q e S r r2 q => ⟨i, j, by cases r; cases r2; rfl, by
  have z : (if j < i then j else i) = min i j := by by_cases w : j < i <;> simp [w] <;> omega
  rw [z]; exact q _ G1 H1 (Le.refl _) S rfl⟩
theorem ev_sum {ds : List Int} (h : Ev ta σ G M M1 (cL cI) ds) : Ev (tCB (rSum K) (tCons ta tNil)) σ G M M1 cI ds.sum := ev_cb1 h fun G1 H1 v Q e S ⟨a, xs, h1, h2, h3⟩ q => by
  have z := All2.map.mp h3
  subst z
  exact ⟨a, ds, by rw [h1], SqL.of (S.g.lst h2), q _ G1 H1 (Le.refl _) S rfl⟩
theorem ev_all {ds : List Bool} (h : Ev ta σ G M M1 (cL cB) ds) : Ev (tCB (rAll K) (tCons ta tNil)) σ G M M1 cB (ds.all id) := ev_cb1 h fun G1 H1 v Q e S ⟨a, xs, h1, h2, h3⟩ q => by
  have z := All2.map.mp h3
  subst z
  exact ⟨a, ds, by rw [h1], SqL.of (S.g.lst h2), q _ G1 H1 (Le.refl _) S rfl⟩
theorem ev_any {ds : List Bool} (h : Ev ta σ G M M1 (cL cB) ds) : Ev (tCB (rAny K) (tCons ta tNil)) σ G M M1 cB (ds.any id) := ev_cb1 h fun G1 H1 v Q e S ⟨a, xs, h1, h2, h3⟩ q => by
  have z := All2.map.mp h3
  subst z
  exact ⟨a, ds, by rw [h1], SqL.of (S.g.lst h2), q _ G1 H1 (Le.refl _) S rfl⟩
/-! ### texts -/
def joinP (a : Str) (ys : List Str) : Option Str := if (ys.map fun x => x.length).sum + ys.length * a.length ≤ 16777216 then some (Txt.join a ys) else none
def rJoin (K : PySem.W.Frag) : V → List V → Hp → VK → Prop := fun x xs H Q => ∃ a p ys, x = V.str a ∧ xs = [V.ref p] ∧ (SqL K H p (List.map V.str ys) ∨ SqT K H p (List.map V.str ys)) ∧ (List.map (fun x : Str => x.length) ys).sum + ys.length * a.length ≤ 16777216 ∧ Q (V.str (Txt.join a ys)) H
theorem ev_join {a z : Str} {ys : List Str} (ha : Ev ta σ G M M1 cS a) (hb : Ev tb σ G M1 M2 (cL cS) ys) (hz : joinP a ys = some z) : Ev (tM1 (rJoin K) ta tb) σ G M M2 cS z := fun G1 H1 e S Q q =>
  ha G1 H1 e S _ fun v G2 H2 e2 S2 r => ⟨⟨a, r⟩, hb G2 H2 (e.trans e2) S2 _ fun u G3 H3 e3 S3 ⟨b, xs, h1, h2, h3⟩ => by
    obtain ⟨hl, rfl⟩ := ite_some hz
    have w := All2.map.mp h3
    subst w
    exact ⟨a, b, ys, r, by rw [h1], .inl (SqL.of (S3.g.lst h2)), hl, q _ G3 H3 (e2.trans e3) S3 rfl⟩⟩
def splitP (a b : Str) : Option (List Str) := if (b.length == 0) = false ∧ a.length + 2 ≤ sizeLine then some (Txt.split a b) else none
def rSplit : V → List V → Hp → VK → Prop := fun x xs H Q => ∃ a b, x = V.str a ∧ xs = [V.str b] ∧ (b.length == 0) = false ∧ a.length + 2 ≤ sizeLine ∧ rNewStrs (Txt.split a b) H Q
theorem en_split {a b : Str} {zs : List Str} (ha : Ev ta σ G M M1 cS a) (hb : Ev tb σ G M1 M2 cS b) (hz : splitP a b = some zs) : EvN (tM1 rSplit ta tb) σ G M M2 (isL cS zs) := fun G1 H1 e S Q q =>
  ha G1 H1 e S _ fun v G2 H2 e2 S2 r => ⟨⟨a, r⟩, hb G2 H2 (e.trans e2) S2 _ fun u G3 H3 e3 S3 r3 => by
    obtain ⟨hl, rfl⟩ := ite_some hz
    exact ⟨a, b, r, by rw [r3], hl.1, hl.2, fun p hp => q p _ G3 _ (e2.trans e3) (S3.freshM hp) (S3.newM hp) ⟨_, rfl, All2.of_map⟩⟩⟩
/-! ### in -/
def strsIn (x : Str) (ys : List Str) : Bool := decide (x ∈ ys)
theorem inV_strs {x : Str} : ∀ ys : List Str, inV (V.str x) (ys.map V.str) = decide (x ∈ ys)
  | [] => rfl
  | y :: ys => by
    have ih := inV_strs (x := x) ys
    unfold inV at ih ⊢
    rw [List.map_cons, List.any_cons, ih]
    have z : eqV (V.str y) (V.str x) = decide (x = y) := by
      by_cases h : x = y
      · subst h; simp [eqV]
      · have h' : ¬ y = x := fun q => h q.symm
        simp [eqV, h, h']
    rw [z]
    by_cases h : x = y <;> simp [h]
theorem flat_strs (ys : List Str) : (ys.map V.str).all flatV = true := by
  rw [List.all_map]
  exact List.all_eq_true.mpr fun _ _ => rfl
theorem ev_inL {x : Str} {ys : List Str} {neg : Bool} (ha : Ev ta σ G M M1 cS x) (hb : Ev tb σ G M1 M2 (cL cS) ys) : Ev (tOp (rIn K neg) ta tb) σ G M M2 cB (if neg = true then !decide (x ∈ ys) else decide (x ∈ ys)) := fun G1 H1 e S Q q =>
  ha G1 H1 e S _ fun v G2 H2 e2 S2 r => hb G2 H2 (e.trans e2) S2 _ fun u G3 H3 e3 S3 ⟨b, xs, h1, h2, h3⟩ => by
    have w := All2.map.mp h3
    subst w
    cases r
    exact ⟨b, _, h1, .inl (SqL.of (S3.g.lst h2)), rfl, flat_strs ys, by rw [inV_strs]; exact q _ G3 H3 (e2.trans e3) S3 rfl⟩
theorem ev_isinL {x : Str} {ys : List Str} (ha : Ev ta σ G M M1 cS x) (hb : Ev tb σ G M1 M2 (cL cS) ys) : Ev (tOp (rIn K false) ta tb) σ G M M2 cB (decide (x ∈ ys)) := ev_inL ha hb
theorem ev_notinL {x : Str} {ys : List Str} (ha : Ev ta σ G M M1 cS x) (hb : Ev tb σ G M1 M2 (cL cS) ys) : Ev (tOp (rIn K true) ta tb) σ G M M2 cB (!decide (x ∈ ys)) := ev_inL ha hb
/-! ### xs.pop(k) -/
def popAt {α : Type} (xs : List α) (i : Int) : Option (α × List α) := if 0 ≤ i ∧ i < xs.length ∧ (xs.length : Int) < 2 ^ 62 then (xs[i.toNat]?).map fun x => (x, xs.eraseIdx i.toNat) else none
theorem All2.erase {G : Hp} : ∀ {vs : List V} {ds : List α} (i : Nat), All2 c G vs ds → All2 c G (vs.eraseIdx i) (ds.eraseIdx i)
  | [], [], _, _ => trivial
  | _ :: _, _ :: _, 0, h => h.2
  | _ :: vs, _ :: ds, i + 1, h => ⟨h.1, All2.erase i h.2⟩
  | [], _ :: _, _, h => h.elim
  | _ :: _, [], _, h => h.elim
theorem ev_popAt {p : Addr} {xs : List V} {ds : List α} {i : Int} {x : α} {es : List α} (ho : Ev ta σ G M M (cA p) ()) (hp : M p = some (.lst xs)) (hx : All2 c G xs ds) (hi : Ev tb σ G M M1 cI i) (hp1 : M1 p = some (.lst xs)) (hz : popAt ds i = some (x, es)) :
    Ev (tBM K "list" rPopAt ta (tCons tb tNil)) σ G M (upd M1 p (.lst (xs.eraseIdx i.toNat))) c x ∧ All2 c G (xs.eraseIdx i.toNat) es := by
  obtain ⟨h0, h1, h2, h3⟩ : 0 ≤ i ∧ i < ds.length ∧ (ds.length : Int) < 2 ^ 62 ∧ (ds[i.toNat]?).map (fun x => (x, ds.eraseIdx i.toNat)) = some (x, es) := by
    unfold popAt at hz
    by_cases h : 0 ≤ i ∧ i < ds.length ∧ (ds.length : Int) < 2 ^ 62
    · rw [if_pos h] at hz; exact ⟨h.1, h.2.1, h.2.2, hz⟩
    · rw [if_neg h] at hz; cases hz
  obtain ⟨y, h4, h5⟩ := Option.map_eq_some_iff.mp h3
  cases h5
  refine ⟨fun G1 H1 e S Q q => ho G1 H1 e S _ fun v G2 H2 e2 S2 r => ⟨tyL r (S2.m _ _ hp), hi G2 H2 (e.trans e2) S2 _ fun u G3 H3 e3 S3 r3 => ?_⟩, All2.erase _ hx⟩
  obtain ⟨w, h6, h7⟩ := All2.get (hx.mono ((e.trans e2).trans e3)) h4
  have hl := hx.length
  have hs : seqIndex? i xs.length = some i.toNat := by
    unfold seqIndex?
    rw [hl]
    simp [h0, h1]
    try omega
  exact ⟨p, xs, i, i.toNat, w, r, by rw [r3], S3.m _ _ hp1, by omega, by omega, hs, h6, q w G3 _ (e2.trans e3) (S3.put hp1) h7⟩
/-! ### while, without a return in it -/
inductive WT (τ : Type) where
  | stop (t : τ)
  | next (t : τ)
def whileTN {τ : Type} (step : τ → Option (WT τ)) : Nat → τ → Option τ
  | 0, _ => none
  | n + 1, t => match step t with
    | none => none
    | some (.stop t') => some t'
    | some (.next t') => whileTN step n t'
theorem whileTN_mono {step : τ → Option (WT τ)} : ∀ {n m : Nat} {t : τ} {r}, n ≤ m → whileTN step n t = some r → whileTN step m t = some r
  | 0, _, _, _, _, h => by cases h
  | n + 1, 0, _, _, hm, _ => by omega
  | n + 1, m + 1, t, r, hm, h => by
    unfold whileTN at h ⊢
    cases e : step t with
    | none => rw [e] at h; cases h
    | some w =>
      rw [e] at h
      cases w with
      | stop t' => exact h
      | next t' => exact whileTN_mono (n := n) (m := m) (by omega) h
open Classical in
noncomputable def whileT {τ : Type} (step : τ → Option (WT τ)) (t : τ) : Option τ :=
  if h : ∃ n r, whileTN step n t = some r then some h.choose_spec.choose else none
theorem whileT_of {step : τ → Option (WT τ)} {n : Nat} {t : τ} {r} (h : whileTN step n t = some r) : whileT step t = some r := by
  unfold whileT
  have ex : ∃ n r, whileTN step n t = some r := ⟨n, r, h⟩
  rw [dif_pos ex]
  have q := ex.choose_spec.choose_spec
  rcases Nat.le_total n ex.choose with hn | hn
  · exact (((whileTN_mono hn h).symm.trans q)).symm
  · exact ((whileTN_mono hn q).symm.trans h)
theorem of_whileT {step : τ → Option (WT τ)} {t : τ} {r} (h : whileT step t = some r) : ∃ n, whileTN step n t = some r := by
  unfold whileT at h
  by_cases ex : ∃ n r, whileTN step n t = some r
  · rw [dif_pos ex] at h
    have q := ex.choose_spec.choose_spec
    rw [Option.some.inj h] at q
    exact ⟨_, q⟩
  · rw [dif_neg ex] at h
    cases h
theorem s_whileT {tt : TT} {tw : TS} {step : τ → Option (WT τ)} {t0 t1 : τ} (S : Sta G M H) (hf : whileT step t0 = some t1) (Rel : τ → Hp → Hp → L2.St → Prop) (h0 : Rel t0 G M σ)
    (turn : ∀ t w G0 M0 H0 σ0, Le G G0 → Sta G0 M0 H0 → Rel t G0 M0 σ0 → step t = some w →
      ∃ b M1, EvT tt σ0 G0 M0 M1 b ∧ (b = true → ∀ G1 H1, Le G0 G1 → Sta G1 M1 H1 →
        tw { D with nx := fun σ' H' => ∃ t' G' M', w = .next t' ∧ Le G0 G' ∧ Sta G' M' H' ∧ Rel t' G' M' σ', ct := fun σ' H' => ∃ t' G' M', w = .next t' ∧ Le G0 G' ∧ Sta G' M' H' ∧ Rel t' G' M' σ', bk := D.nx } σ0 H1) ∧
        (b = false → ∀ G1 H1, Le G0 G1 → Sta G1 M1 H1 → ∃ t' G' M', w = .stop t' ∧ Le G0 G' ∧ Sta G' M' H1 ∧ Rel t' G' M' σ0))
    (done : ∀ G1 M2 H1 σ1, Le G G1 → Sta G1 M2 H1 → Rel t1 G1 M2 σ1 → D.nx σ1 H1) : tWhile tt tw D σ H := by
  obtain ⟨n, hn⟩ := of_whileT hf
  refine ⟨fun m σ' H' => ∃ t G' M', Le G G' ∧ Sta G' M' H' ∧ Rel t G' M' σ' ∧ whileTN step m t = some t1, ⟨n, t0, G, M, Le.refl _, S, h0, hn⟩, ?_⟩
  rintro m σ' H' ⟨t, G', M', e', S', r', hq⟩
  cases m with
  | zero => cases hq
  | succ m =>
    unfold whileTN at hq
    cases hs : step t with
    | none => rw [hs] at hq; cases hq
    | some w =>
      rw [hs] at hq
      obtain ⟨b, M1, hb, k1, k2⟩ := turn t w G' M' H' σ' e' S' r' hs
      refine hb G' H' (Le.refl _) S' _ fun G2 H2 e2 S2 => ?_
      cases b with
      | false =>
        rw [if_neg Bool.false_ne_true]
        obtain ⟨t', G3, M3, rfl, e3, S3, r3⟩ := k2 rfl G2 H2 e2 S2
        have ht : t' = t1 := Option.some.inj hq
        subst ht
        exact done G3 M3 H2 σ' (e'.trans e3) S3 r3
      | true =>
        rw [if_pos rfl]
        refine ⟨_, ?_, k1 rfl G2 H2 e2 S2⟩
        rintro σ3 H3 ⟨t', G3, M3, rfl, e3, S3, r3⟩
        exact ⟨m, Nat.lt_succ_self _, t', G3, M3, e'.trans e3, S3, r3, hq⟩
theorem s_join {t u : TS} {σ : L2.St} (P : L2.St → Hp → Prop) (h1 : (∀ σ' H', P σ' H' → u D σ' H') → t { D with nx := u D } σ H) (h2 : ∀ σ' H', P σ' H' → u D σ' H') : tSeq t u D σ H := h1 h2
theorem s_tgt {σ : L2.St} {g : TG} (h : Ev te σ G M M1 c d) (S : Sta G M H) (k : ∀ v G2 H2, Le G G2 → Sta G2 M1 H2 → c.r G2 v d → g v σ H2 D.nx) : tAsg te g D σ H := h G H (Le.refl G) S _ k
/-! ### what the printed proofs want -/
structure Hand where
  i : Int
  b : Int
  c : Int
  x : Int
  y : Int
def handO (a : Addr) (h : Hand) : HO := .lst [.ref a, .int h.i, .int h.b, .int h.c, .int h.x, .int h.y]
def rCatS : R2 := fun x y H Q => ∃ i j, x = V.str i ∧ y = V.str j ∧ i.length + j.length ≤ sizeLine ∧ Q (V.str (i ++ j)) H
def rangeP (n : Int) : Option (List Int) := if -2 ^ 62 ≤ n ∧ n < 2 ^ 62 then some (rangeD 0 n.toNat) else none
theorem ew_range1P {n : Int} {ds : List Int} (h : Ev te σ G M M1 cI n) (hn : rangeP n = some ds) : EvI (iRng1 (tCons te tNil)) σ G M M1 cI ds := by
  obtain ⟨h1, rfl⟩ := ite_some hn
  exact ew_range1 h h1
theorem ev_lenC {p : Addr} {xs : List V} {ds : List α} (h : Ev ta σ G M M1 (cA p) ()) (hp : M1 p = some (.lst xs)) (hx : All2 c G xs ds) : Ev (tCB (rLenS K) (tCons ta tNil)) σ G M M1 cI (ds.length : Int) := by
  rw [← hx.length]
  exact ev_lenM h hp
theorem popAt_all2 {xs : List V} {ds : List α} {i : Int} {q : α × List α} (h : All2 c G xs ds) (hz : popAt ds i = some q) : All2 c G (xs.eraseIdx i.toNat) q.2 := by
  unfold popAt at hz
  by_cases hc : 0 ≤ i ∧ i < ds.length ∧ (ds.length : Int) < 2 ^ 62
  · rw [if_pos hc] at hz
    obtain ⟨y, _, rfl⟩ := Option.map_eq_some_iff.mp hz
    exact All2.erase _ h
  · rw [if_neg hc] at hz
    cases hz
/-! ### xs[i] op= e -/
theorem get_list {X : Cx} : PGet X (rIxL X.K) := by
  intro pins s σ H x y v u Q I rx ry h
  obtain ⟨p, xs, i, z, rfl, rfl, hq, he, q⟩ := h
  cases rx
  obtain ⟨t, rfl⟩ := ry
  obtain ⟨its, r, pl, hz⟩ := I.list hq
  obtain ⟨j, h1, h2, h3, h4, h5⟩ := atI_get he
  obtain ⟨w, ew, rw'⟩ := r.get h2
  have hl := r.length
  have hn := line63
  have fin : EP X pins σ Q w s := ⟨z, H, I, rw', q⟩
  by_cases h0 : 0 ≤ i
  · have hj : i.toNat = j := by
      rw [seqIndex_of h0 h5] at h1
      exact Option.some.inj h1
    exact wpAny_getItem_list pl.isList h0 (by omega) (by rw [hj]; simpa using ew) fin
  · have hj : (i + (its.toArray.size : Int)).toNat = j := by
      rw [seqIndex_neg (by omega) h4] at h1
      rw [List.size_toArray, ← hl]
      exact Option.some.inj h1
    exact wpAny_getItem_list_neg pl.isList (by omega) (by rw [List.size_toArray] <;> omega) (by omega) (by rw [hj]; simpa using ew) fin
theorem s_augL {f : Int → Int → Int} {p : Addr} {xs : List V} {k x y : Int} {j : Nat} (ho : Ev ta σ G M M (cA p) ()) (hi : Ev tb σ G M M cI k) (hp : M p = some (.lst xs)) (hx : atI xs k = some (.int x)) (h : Ev te σ G M M1 cI y) (S : Sta G M H) (hp1 : M1 p = some (.lst xs)) (hj : ixN xs.length k = some j)
    (q : ∀ G2 H2, Le G G2 → Sta G2 (upd M1 p (.lst (xs.set j (.int (f x y))))) H2 → D.nx σ H2) : tAugS ta tb te (rIxL K) (ipI f) rSetL D σ H :=
  ho G H (Le.refl G) S _ fun v2 G2 H2 e2 S2 r2 => hi G2 H2 e2 S2 _ fun v3 G3 H3 e3 S3 r3 => ⟨p, xs, k, .int x, r2, r3, SqL.of (S3.m _ _ hp), hx, h G3 H3 (e2.trans e3) S3 _ fun v4 G4 H4 e4 S4 r4 => ⟨x, y, rfl, r4, p, xs, k, j, r2, r3, S4.m _ _ hp1, hj, q G4 _ ((e2.trans e3).trans e4) (S4.put hp1)⟩⟩
/-! ### a list of one's own against [] -/
theorem ev_eqNilM {p : Addr} {xs : List V} {ds : List α} (h : Ev ta σ G M M (cA p) ()) (hp : M p = some (.lst xs)) (hx : All2 c G xs ds) (hs : xs.all flatV = true ∨ True) : True := trivial
/-! ### calls of defs -/
theorem ec1 {β1 : Type} {c1 : Cod β1} {d1 : β1} {t1 : TE} {N0 N1 N2 : Hp} {sp : Sp} {E : XK} (hs : ∀ G1 H1 v1 Q, Le G G1 → Sta G1 N1 H1 → c1.r G1 v1 d1 → Ret Q G1 N2 c d → sp [v1] H1 Q E) (h1 : Ev t1 σ G N0 N1 c1 d1) : Ev (tCall sp [] E (tCons t1 tNil)) σ G N0 N2 c d := fun G1 H1 e S Q q =>
  h1 G1 H1 e S _ fun v1 K1 J1 a1 S1 r1 => hs K1 J1 v1 Q (e.trans a1) S1 r1 (fun w G9 H9 e9 S9 r9 => q w G9 H9 (a1.trans e9) S9 r9)
theorem nc1 {β1 : Type} {c1 : Cod β1} {d1 : β1} {t1 : TE} {N0 N1 N2 : Hp} {sp : Sp} {E : XK} {P : Hp → HO → Prop} (hs : ∀ G1 H1 v1 Q, Le G G1 → Sta G1 N1 H1 → c1.r G1 v1 d1 → RetN Q G1 N2 P → sp [v1] H1 Q E) (h1 : Ev t1 σ G N0 N1 c1 d1) : EvN (tCall sp [] E (tCons t1 tNil)) σ G N0 N2 P := fun G1 H1 e S Q q =>
  h1 G1 H1 e S _ fun v1 K1 J1 a1 S1 r1 => hs K1 J1 v1 Q (e.trans a1) S1 r1 (fun p o G9 H9 e9 f9 S9 r9 => q p o G9 H9 (a1.trans e9) f9 S9 r9)
theorem ec2 {β1 : Type} {β2 : Type} {c1 : Cod β1} {d1 : β1} {c2 : Cod β2} {d2 : β2} {t1 : TE} {t2 : TE} {N0 N1 N2 N3 : Hp} {sp : Sp} {E : XK} (hs : ∀ G1 H1 v1 v2 Q, Le G G1 → Sta G1 N2 H1 → c1.r G1 v1 d1 → c2.r G1 v2 d2 → Ret Q G1 N3 c d → sp [v1, v2] H1 Q E) (h1 : Ev t1 σ G N0 N1 c1 d1) (h2 : Ev t2 σ G N1 N2 c2 d2) : Ev (tCall sp [] E (tCons t1 (tCons t2 tNil))) σ G N0 N3 c d := fun G1 H1 e S Q q =>
  h1 G1 H1 e S _ fun v1 K1 J1 a1 S1 r1 => h2 K1 J1 (e.trans a1) S1 _ fun v2 K2 J2 a2 S2 r2 => hs K2 J2 v1 v2 Q ((e.trans a1).trans a2) S2 (c1.mono a2 r1) r2 (fun w G9 H9 e9 S9 r9 => q w G9 H9 ((a1.trans a2).trans e9) S9 r9)
theorem nc2 {β1 : Type} {β2 : Type} {c1 : Cod β1} {d1 : β1} {c2 : Cod β2} {d2 : β2} {t1 : TE} {t2 : TE} {N0 N1 N2 N3 : Hp} {sp : Sp} {E : XK} {P : Hp → HO → Prop} (hs : ∀ G1 H1 v1 v2 Q, Le G G1 → Sta G1 N2 H1 → c1.r G1 v1 d1 → c2.r G1 v2 d2 → RetN Q G1 N3 P → sp [v1, v2] H1 Q E) (h1 : Ev t1 σ G N0 N1 c1 d1) (h2 : Ev t2 σ G N1 N2 c2 d2) : EvN (tCall sp [] E (tCons t1 (tCons t2 tNil))) σ G N0 N3 P := fun G1 H1 e S Q q =>
  h1 G1 H1 e S _ fun v1 K1 J1 a1 S1 r1 => h2 K1 J1 (e.trans a1) S1 _ fun v2 K2 J2 a2 S2 r2 => hs K2 J2 v1 v2 Q ((e.trans a1).trans a2) S2 (c1.mono a2 r1) r2 (fun p o G9 H9 e9 f9 S9 r9 => q p o G9 H9 ((a1.trans a2).trans e9) f9 S9 r9)
theorem ec3 {β1 : Type} {β2 : Type} {β3 : Type} {c1 : Cod β1} {d1 : β1} {c2 : Cod β2} {d2 : β2} {c3 : Cod β3} {d3 : β3} {t1 : TE} {t2 : TE} {t3 : TE} {N0 N1 N2 N3 N4 : Hp} {sp : Sp} {E : XK} (hs : ∀ G1 H1 v1 v2 v3 Q, Le G G1 → Sta G1 N3 H1 → c1.r G1 v1 d1 → c2.r G1 v2 d2 → c3.r G1 v3 d3 → Ret Q G1 N4 c d → sp [v1, v2, v3] H1 Q E) (h1 : Ev t1 σ G N0 N1 c1 d1) (h2 : Ev t2 σ G N1 N2 c2 d2) (h3 : Ev t3 σ G N2 N3 c3 d3) : Ev (tCall sp [] E (tCons t1 (tCons t2 (tCons t3 tNil)))) σ G N0 N4 c d := fun G1 H1 e S Q q =>
  h1 G1 H1 e S _ fun v1 K1 J1 a1 S1 r1 => h2 K1 J1 (e.trans a1) S1 _ fun v2 K2 J2 a2 S2 r2 => h3 K2 J2 ((e.trans a1).trans a2) S2 _ fun v3 K3 J3 a3 S3 r3 => hs K3 J3 v1 v2 v3 Q (((e.trans a1).trans a2).trans a3) S3 (c1.mono (a2.trans a3) r1) (c2.mono a3 r2) r3 (fun w G9 H9 e9 S9 r9 => q w G9 H9 (((a1.trans a2).trans a3).trans e9) S9 r9)
theorem nc3 {β1 : Type} {β2 : Type} {β3 : Type} {c1 : Cod β1} {d1 : β1} {c2 : Cod β2} {d2 : β2} {c3 : Cod β3} {d3 : β3} {t1 : TE} {t2 : TE} {t3 : TE} {N0 N1 N2 N3 N4 : Hp} {sp : Sp} {E : XK} {P : Hp → HO → Prop} (hs : ∀ G1 H1 v1 v2 v3 Q, Le G G1 → Sta G1 N3 H1 → c1.r G1 v1 d1 → c2.r G1 v2 d2 → c3.r G1 v3 d3 → RetN Q G1 N4 P → sp [v1, v2, v3] H1 Q E) (h1 : Ev t1 σ G N0 N1 c1 d1) (h2 : Ev t2 σ G N1 N2 c2 d2) (h3 : Ev t3 σ G N2 N3 c3 d3) : EvN (tCall sp [] E (tCons t1 (tCons t2 (tCons t3 tNil)))) σ G N0 N4 P := fun G1 H1 e S Q q =>
  h1 G1 H1 e S _ fun v1 K1 J1 a1 S1 r1 => h2 K1 J1 (e.trans a1) S1 _ fun v2 K2 J2 a2 S2 r2 => h3 K2 J2 ((e.trans a1).trans a2) S2 _ fun v3 K3 J3 a3 S3 r3 => hs K3 J3 v1 v2 v3 Q (((e.trans a1).trans a2).trans a3) S3 (c1.mono (a2.trans a3) r1) (c2.mono a3 r2) r3 (fun p o G9 H9 e9 f9 S9 r9 => q p o G9 H9 (((a1.trans a2).trans a3).trans e9) f9 S9 r9)
theorem ec4 {β1 : Type} {β2 : Type} {β3 : Type} {β4 : Type} {c1 : Cod β1} {d1 : β1} {c2 : Cod β2} {d2 : β2} {c3 : Cod β3} {d3 : β3} {c4 : Cod β4} {d4 : β4} {t1 : TE} {t2 : TE} {t3 : TE} {t4 : TE} {N0 N1 N2 N3 N4 N5 : Hp} {sp : Sp} {E : XK} (hs : ∀ G1 H1 v1 v2 v3 v4 Q, Le G G1 → Sta G1 N4 H1 → c1.r G1 v1 d1 → c2.r G1 v2 d2 → c3.r G1 v3 d3 → c4.r G1 v4 d4 → Ret Q G1 N5 c d → sp [v1, v2, v3, v4] H1 Q E) (h1 : Ev t1 σ G N0 N1 c1 d1) (h2 : Ev t2 σ G N1 N2 c2 d2) (h3 : Ev t3 σ G N2 N3 c3 d3) (h4 : Ev t4 σ G N3 N4 c4 d4) : Ev (tCall sp [] E (tCons t1 (tCons t2 (tCons t3 (tCons t4 tNil))))) σ G N0 N5 c d := fun G1 H1 e S Q q =>
  h1 G1 H1 e S _ fun v1 K1 J1 a1 S1 r1 => h2 K1 J1 (e.trans a1) S1 _ fun v2 K2 J2 a2 S2 r2 => h3 K2 J2 ((e.trans a1).trans a2) S2 _ fun v3 K3 J3 a3 S3 r3 => h4 K3 J3 (((e.trans a1).trans a2).trans a3) S3 _ fun v4 K4 J4 a4 S4 r4 => hs K4 J4 v1 v2 v3 v4 Q ((((e.trans a1).trans a2).trans a3).trans a4) S4 (c1.mono ((a2.trans a3).trans a4) r1) (c2.mono (a3.trans a4) r2) (c3.mono a4 r3) r4 (fun w G9 H9 e9 S9 r9 => q w G9 H9 ((((a1.trans a2).trans a3).trans a4).trans e9) S9 r9)
theorem nc4 {β1 : Type} {β2 : Type} {β3 : Type} {β4 : Type} {c1 : Cod β1} {d1 : β1} {c2 : Cod β2} {d2 : β2} {c3 : Cod β3} {d3 : β3} {c4 : Cod β4} {d4 : β4} {t1 : TE} {t2 : TE} {t3 : TE} {t4 : TE} {N0 N1 N2 N3 N4 N5 : Hp} {sp : Sp} {E : XK} {P : Hp → HO → Prop} (hs : ∀ G1 H1 v1 v2 v3 v4 Q, Le G G1 → Sta G1 N4 H1 → c1.r G1 v1 d1 → c2.r G1 v2 d2 → c3.r G1 v3 d3 → c4.r G1 v4 d4 → RetN Q G1 N5 P → sp [v1, v2, v3, v4] H1 Q E) (h1 : Ev t1 σ G N0 N1 c1 d1) (h2 : Ev t2 σ G N1 N2 c2 d2) (h3 : Ev t3 σ G N2 N3 c3 d3) (h4 : Ev t4 σ G N3 N4 c4 d4) : EvN (tCall sp [] E (tCons t1 (tCons t2 (tCons t3 (tCons t4 tNil))))) σ G N0 N5 P := fun G1 H1 e S Q q =>
  h1 G1 H1 e S _ fun v1 K1 J1 a1 S1 r1 => h2 K1 J1 (e.trans a1) S1 _ fun v2 K2 J2 a2 S2 r2 => h3 K2 J2 ((e.trans a1).trans a2) S2 _ fun v3 K3 J3 a3 S3 r3 => h4 K3 J3 (((e.trans a1).trans a2).trans a3) S3 _ fun v4 K4 J4 a4 S4 r4 => hs K4 J4 v1 v2 v3 v4 Q ((((e.trans a1).trans a2).trans a3).trans a4) S4 (c1.mono ((a2.trans a3).trans a4) r1) (c2.mono (a3.trans a4) r2) (c3.mono a4 r3) r4 (fun p o G9 H9 e9 f9 S9 r9 => q p o G9 H9 ((((a1.trans a2).trans a3).trans a4).trans e9) f9 S9 r9)
theorem ec5 {β1 : Type} {β2 : Type} {β3 : Type} {β4 : Type} {β5 : Type} {c1 : Cod β1} {d1 : β1} {c2 : Cod β2} {d2 : β2} {c3 : Cod β3} {d3 : β3} {c4 : Cod β4} {d4 : β4} {c5 : Cod β5} {d5 : β5} {t1 : TE} {t2 : TE} {t3 : TE} {t4 : TE} {t5 : TE} {N0 N1 N2 N3 N4 N5 N6 : Hp} {sp : Sp} {E : XK} (hs : ∀ G1 H1 v1 v2 v3 v4 v5 Q, Le G G1 → Sta G1 N5 H1 → c1.r G1 v1 d1 → c2.r G1 v2 d2 → c3.r G1 v3 d3 → c4.r G1 v4 d4 → c5.r G1 v5 d5 → Ret Q G1 N6 c d → sp [v1, v2, v3, v4, v5] H1 Q E) (h1 : Ev t1 σ G N0 N1 c1 d1) (h2 : Ev t2 σ G N1 N2 c2 d2) (h3 : Ev t3 σ G N2 N3 c3 d3) (h4 : Ev t4 σ G N3 N4 c4 d4) (h5 : Ev t5 σ G N4 N5 c5 d5) : Ev (tCall sp [] E (tCons t1 (tCons t2 (tCons t3 (tCons t4 (tCons t5 tNil)))))) σ G N0 N6 c d := fun G1 H1 e S Q q =>
  h1 G1 H1 e S _ fun v1 K1 J1 a1 S1 r1 => h2 K1 J1 (e.trans a1) S1 _ fun v2 K2 J2 a2 S2 r2 => h3 K2 J2 ((e.trans a1).trans a2) S2 _ fun v3 K3 J3 a3 S3 r3 => h4 K3 J3 (((e.trans a1).trans a2).trans a3) S3 _ fun v4 K4 J4 a4 S4 r4 => h5 K4 J4 ((((e.trans a1).trans a2).trans a3).trans a4) S4 _ fun v5 K5 J5 a5 S5 r5 => hs K5 J5 v1 v2 v3 v4 v5 Q (((((e.trans a1).trans a2).trans a3).trans a4).trans a5) S5 (c1.mono (((a2.trans a3).trans a4).trans a5) r1) (c2.mono ((a3.trans a4).trans a5) r2) (c3.mono (a4.trans a5) r3) (c4.mono a5 r4) r5 (fun w G9 H9 e9 S9 r9 => q w G9 H9 (((((a1.trans a2).trans a3).trans a4).trans a5).trans e9) S9 r9)
theorem nc5 {β1 : Type} {β2 : Type} {β3 : Type} {β4 : Type} {β5 : Type} {c1 : Cod β1} {d1 : β1} {c2 : Cod β2} {d2 : β2} {c3 : Cod β3} {d3 : β3} {c4 : Cod β4} {d4 : β4} {c5 : Cod β5} {d5 : β5} {t1 : TE} {t2 : TE} {t3 : TE} {t4 : TE} {t5 : TE} {N0 N1 N2 N3 N4 N5 N6 : Hp} {sp : Sp} {E : XK} {P : Hp → HO → Prop} (hs : ∀ G1 H1 v1 v2 v3 v4 v5 Q, Le G G1 → Sta G1 N5 H1 → c1.r G1 v1 d1 → c2.r G1 v2 d2 → c3.r G1 v3 d3 → c4.r G1 v4 d4 → c5.r G1 v5 d5 → RetN Q G1 N6 P → sp [v1, v2, v3, v4, v5] H1 Q E) (h1 : Ev t1 σ G N0 N1 c1 d1) (h2 : Ev t2 σ G N1 N2 c2 d2) (h3 : Ev t3 σ G N2 N3 c3 d3) (h4 : Ev t4 σ G N3 N4 c4 d4) (h5 : Ev t5 σ G N4 N5 c5 d5) : EvN (tCall sp [] E (tCons t1 (tCons t2 (tCons t3 (tCons t4 (tCons t5 tNil)))))) σ G N0 N6 P := fun G1 H1 e S Q q =>
  h1 G1 H1 e S _ fun v1 K1 J1 a1 S1 r1 => h2 K1 J1 (e.trans a1) S1 _ fun v2 K2 J2 a2 S2 r2 => h3 K2 J2 ((e.trans a1).trans a2) S2 _ fun v3 K3 J3 a3 S3 r3 => h4 K3 J3 (((e.trans a1).trans a2).trans a3) S3 _ fun v4 K4 J4 a4 S4 r4 => h5 K4 J4 ((((e.trans a1).trans a2).trans a3).trans a4) S4 _ fun v5 K5 J5 a5 S5 r5 => hs K5 J5 v1 v2 v3 v4 v5 Q (((((e.trans a1).trans a2).trans a3).trans a4).trans a5) S5 (c1.mono (((a2.trans a3).trans a4).trans a5) r1) (c2.mono ((a3.trans a4).trans a5) r2) (c3.mono (a4.trans a5) r3) (c4.mono a5 r4) r5 (fun p o G9 H9 e9 f9 S9 r9 => q p o G9 H9 (((((a1.trans a2).trans a3).trans a4).trans a5).trans e9) f9 S9 r9)
theorem ec6 {β1 : Type} {β2 : Type} {β3 : Type} {β4 : Type} {β5 : Type} {β6 : Type} {c1 : Cod β1} {d1 : β1} {c2 : Cod β2} {d2 : β2} {c3 : Cod β3} {d3 : β3} {c4 : Cod β4} {d4 : β4} {c5 : Cod β5} {d5 : β5} {c6 : Cod β6} {d6 : β6} {t1 : TE} {t2 : TE} {t3 : TE} {t4 : TE} {t5 : TE} {t6 : TE} {N0 N1 N2 N3 N4 N5 N6 N7 : Hp} {sp : Sp} {E : XK} (hs : ∀ G1 H1 v1 v2 v3 v4 v5 v6 Q, Le G G1 → Sta G1 N6 H1 → c1.r G1 v1 d1 → c2.r G1 v2 d2 → c3.r G1 v3 d3 → c4.r G1 v4 d4 → c5.r G1 v5 d5 → c6.r G1 v6 d6 → Ret Q G1 N7 c d → sp [v1, v2, v3, v4, v5, v6] H1 Q E) (h1 : Ev t1 σ G N0 N1 c1 d1) (h2 : Ev t2 σ G N1 N2 c2 d2) (h3 : Ev t3 σ G N2 N3 c3 d3) (h4 : Ev t4 σ G N3 N4 c4 d4) (h5 : Ev t5 σ G N4 N5 c5 d5) (h6 : Ev t6 σ G N5 N6 c6 d6) : Ev (tCall sp [] E (tCons t1 (tCons t2 (tCons t3 (tCons t4 (tCons t5 (tCons t6 tNil))))))) σ G N0 N7 c d := fun G1 H1 e S Q q =>
  h1 G1 H1 e S _ fun v1 K1 J1 a1 S1 r1 => h2 K1 J1 (e.trans a1) S1 _ fun v2 K2 J2 a2 S2 r2 => h3 K2 J2 ((e.trans a1).trans a2) S2 _ fun v3 K3 J3 a3 S3 r3 => h4 K3 J3 (((e.trans a1).trans a2).trans a3) S3 _ fun v4 K4 J4 a4 S4 r4 => h5 K4 J4 ((((e.trans a1).trans a2).trans a3).trans a4) S4 _ fun v5 K5 J5 a5 S5 r5 => h6 K5 J5 (((((e.trans a1).trans a2).trans a3).trans a4).trans a5) S5 _ fun v6 K6 J6 a6 S6 r6 => hs K6 J6 v1 v2 v3 v4 v5 v6 Q ((((((e.trans a1).trans a2).trans a3).trans a4).trans a5).trans a6) S6 (c1.mono ((((a2.trans a3).trans a4).trans a5).trans a6) r1) (c2.mono (((a3.trans a4).trans a5).trans a6) r2) (c3.mono ((a4.trans a5).trans a6) r3) (c4.mono (a5.trans a6) r4) (c5.mono a6 r5) r6 (fun w G9 H9 e9 S9 r9 => q w G9 H9 ((((((a1.trans a2).trans a3).trans a4).trans a5).trans a6).trans e9) S9 r9)
theorem nc6 {β1 : Type} {β2 : Type} {β3 : Type} {β4 : Type} {β5 : Type} {β6 : Type} {c1 : Cod β1} {d1 : β1} {c2 : Cod β2} {d2 : β2} {c3 : Cod β3} {d3 : β3} {c4 : Cod β4} {d4 : β4} {c5 : Cod β5} {d5 : β5} {c6 : Cod β6} {d6 : β6} {t1 : TE} {t2 : TE} {t3 : TE} {t4 : TE} {t5 : TE} {t6 : TE} {N0 N1 N2 N3 N4 N5 N6 N7 : Hp} {sp : Sp} {E : XK} {P : Hp → HO → Prop} (hs : ∀ G1 H1 v1 v2 v3 v4 v5 v6 Q, Le G G1 → Sta G1 N6 H1 → c1.r G1 v1 d1 → c2.r G1 v2 d2 → c3.r G1 v3 d3 → c4.r G1 v4 d4 → c5.r G1 v5 d5 → c6.r G1 v6 d6 → RetN Q G1 N7 P → sp [v1, v2, v3, v4, v5, v6] H1 Q E) (h1 : Ev t1 σ G N0 N1 c1 d1) (h2 : Ev t2 σ G N1 N2 c2 d2) (h3 : Ev t3 σ G N2 N3 c3 d3) (h4 : Ev t4 σ G N3 N4 c4 d4) (h5 : Ev t5 σ G N4 N5 c5 d5) (h6 : Ev t6 σ G N5 N6 c6 d6) : EvN (tCall sp [] E (tCons t1 (tCons t2 (tCons t3 (tCons t4 (tCons t5 (tCons t6 tNil))))))) σ G N0 N7 P := fun G1 H1 e S Q q =>
  h1 G1 H1 e S _ fun v1 K1 J1 a1 S1 r1 => h2 K1 J1 (e.trans a1) S1 _ fun v2 K2 J2 a2 S2 r2 => h3 K2 J2 ((e.trans a1).trans a2) S2 _ fun v3 K3 J3 a3 S3 r3 => h4 K3 J3 (((e.trans a1).trans a2).trans a3) S3 _ fun v4 K4 J4 a4 S4 r4 => h5 K4 J4 ((((e.trans a1).trans a2).trans a3).trans a4) S4 _ fun v5 K5 J5 a5 S5 r5 => h6 K5 J5 (((((e.trans a1).trans a2).trans a3).trans a4).trans a5) S5 _ fun v6 K6 J6 a6 S6 r6 => hs K6 J6 v1 v2 v3 v4 v5 v6 Q ((((((e.trans a1).trans a2).trans a3).trans a4).trans a5).trans a6) S6 (c1.mono ((((a2.trans a3).trans a4).trans a5).trans a6) r1) (c2.mono (((a3.trans a4).trans a5).trans a6) r2) (c3.mono ((a4.trans a5).trans a6) r3) (c4.mono (a5.trans a6) r4) (c5.mono a6 r5) r6 (fun p o G9 H9 e9 f9 S9 r9 => q p o G9 H9 ((((((a1.trans a2).trans a3).trans a4).trans a5).trans a6).trans e9) f9 S9 r9)
end
end GL
/-! GL6: ==, !=, <, in, sorted of data. -/
namespace GL
open PySem PySem.Spec L2
open PySem.W (T3 T4 Tup Datum DatumOrd Holds HoldAll)
/-- the codec's values hold data of the library -/
class HC {α : Type} [DecidableEq α] [Datum α] (c : Cod α) : Prop where
  h : ∀ {X : Cx} {pins : List (Addr × Obj)} {σ : L2.St} {H : Hp} {s : Shared} {v : V} {u : Value} {a : α}, Inv X pins σ H s → c.r H v a → RelV v u → Holds s.heap u a
instance : HC cI := ⟨fun I r q => by cases r; obtain ⟨t, rfl⟩ := q; exact PySem.W.holds_int _ _⟩
instance : HC cS := ⟨fun I r q => by cases r; obtain ⟨t, rfl⟩ := q; exact PySem.W.holds_str _ _⟩
instance : HC cB := ⟨fun I r q => by cases r; cases q; exact PySem.W.holds_bool _⟩
section
variable {α β γ δ : Type} [DecidableEq α] [Datum α] [DecidableEq β] [Datum β] [DecidableEq γ] [Datum γ] [DecidableEq δ] [Datum δ] {c : Cod α} {c2 : Cod β} {c3 : Cod γ} {c4 : Cod δ}
theorem hc_all [HC c] {X : Cx} {pins : List (Addr × Obj)} {σ : L2.St} {H : Hp} {s : Shared} (I : Inv X pins σ H s) : ∀ {xs : List V} {us : List Value} {ds : List α}, All2 c H xs ds → Vals xs us → HoldAll s.heap us ds
  | [], _, [], _, .nil => HoldAll.nil
  | _ :: _, _, _ :: _, h, .cons r t => HoldAll.cons (HC.h I h.1 r) (hc_all I h.2 t)
  | [], _, _ :: _, h, _ => h.elim
  | _ :: _, _, [], h, _ => h.elim
instance [HC c] : HC (cL c) := ⟨fun I ⟨a, xs, h1, h2, h3⟩ q => by
  subst h1
  cases q
  obtain ⟨its, r, pl, _⟩ := I.list (SqL.of h2)
  exact PySem.W.holds_list pl.isList (by simpa using hc_all I h3 r)⟩
theorem vals2' {a b : V} {us : List Value} (r : Vals [a, b] us) : ∃ u w, us = [u, w] ∧ RelV a u ∧ RelV b w := by
  cases r with
  | cons r1 t1 => cases t1 with
    | cons r2 t2 => cases t2; exact ⟨_, _, rfl, r1, r2⟩
theorem vals3' {a b c : V} {us : List Value} (r : Vals [a, b, c] us) : ∃ u w z, us = [u, w, z] ∧ RelV a u ∧ RelV b w ∧ RelV c z := by
  cases r with
  | cons r1 t1 => cases t1 with
    | cons r2 t2 => cases t2 with
      | cons r3 t3 => cases t3; exact ⟨_, _, _, rfl, r1, r2, r3⟩
theorem isTup {h : Heap} {a : Addr} {xs : Array Value} (t : PyProof.Rows.IsTup h a xs) : h.IsTuple a xs := by
  obtain ⟨o, h1, h2, n, h3⟩ := t
  exact ⟨o, h1, h2, n, h3⟩
instance [HC c] [HC c2] : HC (cT2 c c2) := ⟨fun {X pins σ H s v u a} I ⟨p, x, y, h1, h2, h3, h4⟩ q => by
  subst h1
  cases q
  obtain ⟨its, r, tp, _⟩ := I.tuple (SqT.of h2)
  obtain ⟨u1, u2, rfl, r1, r2⟩ := vals2' r
  obtain ⟨a1, a2⟩ := a
  exact PySem.W.holds_pair (by simpa using isTup tp) (HC.h I h3 r1) (HC.h I h4 r2)⟩
instance [HC c] [HC c2] [HC c3] : HC (cT3 c c2 c3) := ⟨fun {X pins σ H s v u a} I ⟨p, x, y, z, h1, h2, h3, h4, h5⟩ q => by
  subst h1
  cases q
  obtain ⟨its, r, tp, _⟩ := I.tuple (SqT.of h2)
  obtain ⟨u1, u2, u3, rfl, r1, r2, r3⟩ := vals3' r
  obtain ⟨a1, a2, a3⟩ := a
  exact PySem.W.holds_t3 (by simpa using isTup tp) (HC.h I h3 r1) (HC.h I h4 r2) (HC.h I h5 r3)⟩
end
section
variable {α : Type} [DecidableEq α] [Datum α]
/-- two data of one kind, by any codec that holds them -/
def rDat (α : Type) [DecidableEq α] [Datum α] (g : α → α → Bool) : R2 := fun x y H Q => ∃ (c c' : Cod α) (_ : HC c) (_ : HC c') (d e : α), c.r H x d ∧ c'.r H y e ∧ Q (.bl (g d e)) H
theorem op_eqT {X : Cx} (α : Type) [DecidableEq α] [Datum α] (hu : X.A.units + 64 < cLine) (hd : Datum.depth α ≤ 60) : OpR X (compareOp .Eq) (rDat α fun d e => decide (d = e)) := by
  intro pins s σ H x y v u Q I rx ry h
  obtain ⟨c, c', hc, hc', d, e, h1, h2, q⟩ := h
  exact PySem.W.eq_datum (HC.h I h1 rx) (HC.h I h2 ry) (by omega) ⟨.bl _, H, I, rfl, q⟩
theorem op_neT {X : Cx} (α : Type) [DecidableEq α] [Datum α] (hu : X.A.units + 64 < cLine) (hd : Datum.depth α ≤ 60) : OpR X (compareOp .NotEq) (rDat α fun d e => !decide (d = e)) := by
  intro pins s σ H x y v u Q I rx ry h
  obtain ⟨c, c', hc, hc', d, e, h1, h2, q⟩ := h
  exact PySem.W.ne_datum (HC.h I h1 rx) (HC.h I h2 ry) (by omega) ⟨.bl _, H, I, by simp [RelV], q⟩
theorem op_ltT {X : Cx} (α : Type) [DecidableEq α] [DatumOrd α] (hu : X.A.units + 64 < cLine) (hd : Datum.depth α ≤ 60) : OpR X (compareOp .Lt) (rDat α fun d e => DatumOrd.lt d e) := by
  intro pins s σ H x y v u Q I rx ry h
  obtain ⟨c, c', hc, hc', d, e, h1, h2, q⟩ := h
  exact PySem.W.lt_datum (HC.h I h1 rx) (HC.h I h2 ry) (by omega) ⟨.bl _, H, I, rfl, q⟩
end
section
variable {K : PySem.W.Frag} {α β γ τ : Type} [DecidableEq α] [Datum α] {te ta tb tc : TE} {σ : L2.St} {G G' M M' M1 M2 M3 H : Hp} {c : Cod α} {d : α} {D : Ends}
theorem ev_dat {g : α → α → Bool} {x y : α} {c' : Cod α} [hc : HC c] [hc' : HC c'] (ha : Ev ta σ G M M1 c x) (hb : Ev tb σ G M1 M2 c' y) : Ev (tOp (rDat α g) ta tb) σ G M M2 cB (g x y) := fun G1 H1 e S Q q =>
  ha G1 H1 e S _ fun v G2 H2 e2 S2 r2 => hb G2 H2 (e.trans e2) S2 _ fun u G3 H3 e3 S3 r3 => ⟨c, c', hc, hc', x, y, c.mono (e3.trans S3.g) r2, c'.mono S3.g r3, q _ G3 H3 (e2.trans e3) S3 rfl⟩
/-- a cell that is a list, as data -/
theorem ev_cellL {p : Addr} {xs : List V} {ds : List α} (h : Ev ta σ G M M1 (cA p) ()) (hp : M1 p = some (.lst xs)) (hx : All2 c G xs ds) :
    ∀ G1 H1, Le G G1 → Sta G1 M H1 → ∀ Q : VK, (∀ v G2 H2, Le G1 G2 → Sta G2 M1 H2 → (cL c).r H2 v ds → Q v H2) → ta σ H1 Q := fun G1 H1 e S Q q =>
  h G1 H1 e S _ fun v G2 H2 e2 S2 r => q v G2 H2 e2 S2 ⟨p, xs, r, S2.m _ _ hp, hx.mono ((e.trans e2).trans S2.g)⟩
theorem ev_datM {g : List α → List α → Bool} {p : Addr} {xs : List V} {ds es : List α} {c' : Cod α} [hc : HC c] [hc' : HC c'] (h : Ev ta σ G M M1 (cA p) ()) (hp : M1 p = some (.lst xs)) (hx : All2 c G xs ds) (hb : Ev tb σ G M1 M1 (cL c') es) :
    Ev (tOp (rDat (List α) g) ta tb) σ G M M1 cB (g ds es) := fun G1 H1 e S Q q =>
  h G1 H1 e S _ fun v G2 H2 e2 S2 r => hb G2 H2 (e.trans e2) S2 _ fun u G3 H3 e3 S3 r3 => ⟨cL c, cL c', inferInstance, inferInstance, ds, es, ⟨p, xs, r, S3.m _ _ hp, hx.mono (((e.trans e2).trans e3).trans S3.g)⟩, Cod.mono _ S3.g r3, q _ G3 H3 (e2.trans e3) S3 rfl⟩
end
end GL
/-! GL7: statements ahead of others. -/
namespace GL
open PySem PySem.Spec L2
section
variable {K : PySem.W.Frag} {α β γ τ : Type} {te ta tb tc : TE} {σ : L2.St} {G G' M M' M1 M2 M3 H : Hp} {c : Cod α} {d : α} {D : Ends} {u : TS}
theorem et_T {b : Bool} (h : Ev te σ G M M1 cB b) : EvT (tTest te) σ G M M1 b := fun G1 H1 e S Q q => h G1 H1 e S _ fun v G2 H2 e2 S2 r => ⟨b, r, q G2 H2 e2 S2⟩
theorem s_asgS {i : Nat} (h : Ev te σ G M M1 c d) (S : Sta G M H) (k : ∀ v G2 H2, Le G G2 → Sta G2 M1 H2 → c.r G2 v d → u D (σ.set i (some v)) H2) : tSeq (tAsg te (gName i)) u D σ H := s_asg (D := { D with nx := u D }) h S k
theorem s_asgFS {i : Nat} {f : α → V} (h : Ev te σ G M M1 (cF f) d) (S : Sta G M H) (k : ∀ G2 H2, Le G G2 → Sta G2 M1 H2 → u D (σ.set i (some (f d))) H2) : tSeq (tAsg te (gName i)) u D σ H := s_asgF (D := { D with nx := u D }) h S k
theorem s_asgNS {i : Nat} {P : Hp → HO → Prop} (h : EvN te σ G M M1 P) (S : Sta G M H) (k : ∀ p o G2 H2, Le G G2 → M1 p = none → Sta G2 (upd M1 p o) H2 → P G2 o → u D (σ.set i (some (.ref p))) H2) : tSeq (tAsg te (gName i)) u D σ H := s_asgN (D := { D with nx := u D }) h S k
theorem s_dropS (h : Ev te σ G M M1 c d) (S : Sta G M H) (k : ∀ G2 H2, Le G G2 → Sta G2 M1 H2 → u D σ H2) : tSeq (tDrop te) u D σ H := s_drop (D := { D with nx := u D }) h S k
theorem s_ifL {t : TT} {w : TS} {b : Bool} (h : EvT t σ G M M1 b) (S : Sta G M H) (k1 : b = true → ∀ G2 H2, Le G G2 → Sta G2 M1 H2 → w { D with nx := u D } σ H2) (k2 : b = false → ∀ G2 H2, Le G G2 → Sta G2 M1 H2 → u D σ H2) : tSeq (tIfS t w tNext) u D σ H := s_if (D := { D with nx := u D }) h S k1 k2
theorem s_augS' {i : Nat} {f : Int → Int → Int} {x y : Int} (hx : σ[i]? = some (some (.int x))) (h : Ev te σ G M M1 cI y) (S : Sta G M H) (k : ∀ G2 H2, Le G G2 → Sta G2 M1 H2 → u D (σ.set i (some (.int (f x y)))) H2) : tSeq (tAug i te (ipI f)) u D σ H := s_aug (D := { D with nx := u D }) hx h S k
theorem s_parS {i j : Nat} {c2 : Cod β} {d2 : β} (h1 : Ev ta σ G M M1 c d) (h2 : Ev tb σ G M1 M2 c2 d2) (S : Sta G M H) (k : ∀ v w G2 H2, Le G G2 → Sta G2 M2 H2 → c.r G2 v d → c2.r G2 w d2 → u D ((σ.set i (some v)).set j (some w)) H2) : tSeq (tPar i j (tCons ta (tCons tb tNil))) u D σ H := s_par (D := { D with nx := u D }) h1 h2 S k
theorem s_setLS {p : Addr} {xs : List V} {k : Int} {j : Nat} (h : Ev te σ G M M1 c d) (ho : Ev ta σ G M1 M1 (cA p) ()) (hi : Ev tb σ G M1 M1 cI k) (S : Sta G M H) (hp : M1 p = some (.lst xs)) (hj : ixN xs.length k = some j)
    (q : ∀ v G2 H2, Le G G2 → Sta G2 (upd M1 p (.lst (xs.set j v))) H2 → c.r G2 v d → u D σ H2) : tSeq (tAsg te (gSub ta tb rSetL)) u D σ H := s_setL (D := { D with nx := u D }) h ho hi S hp hj q
theorem s_augLS {f : Int → Int → Int} {p : Addr} {xs : List V} {k x y : Int} {j : Nat} (ho : Ev ta σ G M M (cA p) ()) (hi : Ev tb σ G M M cI k) (hp : M p = some (.lst xs)) (hx : atI xs k = some (.int x)) (h : Ev te σ G M M1 cI y) (S : Sta G M H) (hp1 : M1 p = some (.lst xs)) (hj : ixN xs.length k = some j)
    (q : ∀ G2 H2, Le G G2 → Sta G2 (upd M1 p (.lst (xs.set j (.int (f x y))))) H2 → u D σ H2) : tSeq (tAugS ta tb te (rIxL K) (ipI f) rSetL) u D σ H := s_augL (D := { D with nx := u D }) ho hi hp hx h S hp1 hj q
theorem s_appendS {p : Addr} {xs : List V} (ho : Ev ta σ G M M (cA p) ()) (h : Ev te σ G M M1 c d) (S : Sta G M H) (hp : M p = some (.lst xs)) (hp1 : M1 p = some (.lst xs)) (hz : xs.length < sizeLine)
    (q : ∀ v G2 H2, Le G G2 → Sta G2 (upd M1 p (.lst (xs ++ [v]))) H2 → c.r G2 v d → u D σ H2) : tSeq (tDrop (tBM K "list" rAppend ta (tCons te tNil))) u D σ H := s_append (D := { D with nx := u D }) ho h S hp hp1 hz q
theorem s_tgtS {g : TG} (h : Ev te σ G M M1 c d) (S : Sta G M H) (k : ∀ v G2 H2, Le G G2 → Sta G2 M1 H2 → c.r G2 v d → g v σ H2 (u D)) : tSeq (tAsg te g) u D σ H := s_tgt (D := { D with nx := u D }) h S k
theorem s_forOS {g : TG} {tw : TS} {wi : TI} {ds : List α} {f : τ → α → Option τ} {t0 t1 : τ} (hw : EvI wi σ G M M1 c ds) (S : Sta G M H) (hf : foldO f ds t0 = some t1) (Rel : τ → Hp → Hp → L2.St → Prop)
    (h0 : ∀ G1, Le G G1 → Rel t0 G1 M1 σ)
    (turn : ∀ t t' a x G0 G1 M2 H1 σ1, Le G G0 → Le G0 G1 → Sta G1 M2 H1 → Rel t G0 M2 σ1 → c.r G1 x a → f t a = some t' →
      g x σ1 H1 fun σ2 H2 => tw { D with nx := fun σ' H' => ∃ G' M', Le G0 G' ∧ Sta G' M' H' ∧ Rel t' G' M' σ', ct := fun σ' H' => ∃ G' M', Le G0 G' ∧ Sta G' M' H' ∧ Rel t' G' M' σ', bk := u D } σ2 H2)
    (done : ∀ G1 M2 H1 σ1, Le G G1 → Sta G1 M2 H1 → Rel t1 G1 M2 σ1 → u D σ1 H1) : tSeq (tFor wi g tw) u D σ H := s_forO (D := { D with nx := u D }) hw S hf Rel h0 turn done
theorem s_whileTS {tt : TT} {tw : TS} {step : τ → Option (WT τ)} {t0 t1 : τ} (S : Sta G M H) (hf : whileT step t0 = some t1) (Rel : τ → Hp → Hp → L2.St → Prop) (h0 : Rel t0 G M σ)
    (turn : ∀ t w G0 M0 H0 σ0, Le G G0 → Sta G0 M0 H0 → Rel t G0 M0 σ0 → step t = some w →
      ∃ b M1, EvT tt σ0 G0 M0 M1 b ∧ (b = true → ∀ G1 H1, Le G0 G1 → Sta G1 M1 H1 →
        tw { D with nx := fun σ' H' => ∃ t' G' M', w = .next t' ∧ Le G0 G' ∧ Sta G' M' H' ∧ Rel t' G' M' σ', ct := fun σ' H' => ∃ t' G' M', w = .next t' ∧ Le G0 G' ∧ Sta G' M' H' ∧ Rel t' G' M' σ', bk := u D } σ0 H1) ∧
        (b = false → ∀ G1 H1, Le G0 G1 → Sta G1 M1 H1 → ∃ t' G' M', w = .stop t' ∧ Le G0 G' ∧ Sta G' M' H1 ∧ Rel t' G' M' σ0))
    (done : ∀ G1 M2 H1 σ1, Le G G1 → Sta G1 M2 H1 → Rel t1 G1 M2 σ1 → u D σ1 H1) : tSeq (tWhile tt tw) u D σ H := s_whileT (D := { D with nx := u D }) S hf Rel h0 turn done
end
end GL
/-! GL8: comprehensions whose turns change one cell. -/
namespace GL
open PySem PySem.Spec L2
def lcH {α β τ : Type} (f : τ → α → Option (Option β × τ)) : List α → τ → Option (List β × τ)
  | [], t => some ([], t)
  | a :: l, t => (f t a).bind fun ob => (lcH f l ob.2).map fun r => (ob.1.toList ++ r.1, r.2)
section
variable {α β τ : Type} {f : τ → α → Option (Option β × τ)}
theorem lcH_snoc : ∀ {l : List α} {a : α} {t t1 t2 : τ} {out : List β} {ob : Option β}, lcH f l t = some (out, t1) → f t1 a = some (ob, t2) → lcH f (l ++ [a]) t = some (out ++ ob.toList, t2)
  | [], a, t, t1, t2, out, ob, h, h2 => by
    cases h
    show (f t a).bind _ = _
    rw [h2]
    simp [lcH]
  | b :: l, a, t, t1, t2, out, ob, h, h2 => by
    unfold lcH at h
    cases e : f t b with
    | none => rw [e] at h; cases h
    | some ob' =>
      rw [e] at h
      cases e2 : lcH f l ob'.2 with
      | none => rw [Option.bind_some, e2] at h; cases h
      | some r =>
        rw [Option.bind_some, e2] at h
        cases h
        show (f t b).bind (fun ob => (lcH f (l ++ [a]) ob.2).map fun r => (ob.1.toList ++ r.1, r.2)) = _
        rw [e, Option.bind_some, lcH_snoc e2 h2]
        simp
theorem lcH_len : ∀ {l : List α} {t t1 : τ} {out : List β}, lcH f l t = some (out, t1) → out.length ≤ l.length
  | [], _, _, _, h => by cases h; exact Nat.le_refl _
  | a :: l, t, t1, out, h => by
    unfold lcH at h
    cases e : f t a with
    | none => rw [e] at h; cases h
    | some ob =>
      rw [e] at h
      cases e2 : lcH f l ob.2 with
      | none => rw [Option.bind_some, e2] at h; cases h
      | some r =>
        rw [Option.bind_some, e2] at h
        cases h
        have z := lcH_len e2
        obtain ⟨ob1, ob2⟩ := ob
        cases ob1 <;> simp <;> omega
/-- the walk's middle: what stands ahead of the i-th turn, what it gives, what is behind it -/
theorem lcH_mid : ∀ {l : List α} {t t1 : τ} {out : List β} (i : Nat) (a : α), lcH f l t = some (out, t1) → l[i]? = some a → ∃ o ti ob, lcH f (l.take i) t = some (o, ti) ∧ f ti a = some ob
  | [], _, _, _, _, _, _, h => by simp at h
  | b :: l, t, t1, out, 0, a, h, ha => by
    obtain rfl : b = a := by simpa using ha
    unfold lcH at h
    cases e : f t b with
    | none => rw [e] at h; cases h
    | some ob => exact ⟨[], t, ob, by simp [lcH], e⟩
  | b :: l, t, t1, out, i + 1, a, h, ha => by
    unfold lcH at h
    cases e : f t b with
    | none => rw [e] at h; cases h
    | some ob =>
      rw [e, Option.bind_some] at h
      cases e2 : lcH f l ob.2 with
      | none => rw [e2] at h; cases h
      | some r =>
        obtain ⟨o, ti, ob', h1, h2⟩ := lcH_mid (out := r.1) (t1 := r.2) i a e2 (by simpa using ha)
        refine ⟨ob.1.toList ++ o, ti, ob', ?_, h2⟩
        show (f t b).bind (fun ob => (lcH f (l.take i) ob.2).map fun r => (ob.1.toList ++ r.1, r.2)) = _
        rw [e, Option.bind_some, h1]
        rfl
end
section
variable {K : PySem.W.Frag} {α β γ τ : Type} {te ta tb tc : TE} {σ : L2.St} {G G' M M' M1 M2 M3 H : Hp} {c : Cod α} {d : α} {D : Ends} {u : TS}
theorem en_M {P : Hp → HO → Prop} (h : EvN te σ G M M1 P) (e : M1 = M2) : EvN te σ G M M2 P := e ▸ h
theorem en_lcH {cb : Cod β} {g : TG} {tt : TT} {wi : TI} {vs : List Nat} {ds : List α} {f : τ → α → Option (Option β × τ)} {out : List β} {p : Addr} {o : τ → HO} {t0 t1 : τ} (hw : EvIB wi σ G M M1 c ds) (hp : M1 p = some (o t0)) (hf : lcH f ds t0 = some (out, t1))
    (turn : ∀ a x G1 H1 t ob, a ∈ ds → Le G G1 → Le G1 H1 → c.r G1 x a → f t a = some ob →
      g x (wipe σ vs) H1 fun σ2 H2 => H2 = H1 ∧ wipe σ2 vs = wipe σ vs ∧ ∀ Mo, ∃ b tm, EvT tt σ2 G1 (upd Mo p (o t)) (upd Mo p (o tm)) b ∧ (b = true → ∃ y, ob.1 = some y ∧ Ev te σ2 G1 (upd Mo p (o tm)) (upd Mo p (o ob.2)) cb y) ∧ (b = false → ob = (none, tm)))
    (gmono : ∀ x H1 (P P' : St → Hp → Prop), (∀ σ2 H2, P σ2 H2 → P' σ2 H2) → g x (wipe σ vs) H1 P → g x (wipe σ vs) H1 P') :
    EvN (tLc wi g tt te vs) σ G M (upd M1 p (o t1)) (isL cb out) := fun G0 H0 e0 S0 Q q =>
  hw G0 H0 e0 S0 _ fun J G2 H2 e2 S2 wk hz Dl hD => by
    have mD := S2.freshM hD
    have pD : p ≠ Dl := ne_of_none hp mD
    have m0 : upd M1 p (o t0) = M1 := upd_self hp
    refine ⟨fun i m H' => ∃ G' acc oo ti, m = ds.length - i ∧ i ≤ ds.length ∧ Le G2 G' ∧ Sta G' (upd (upd M1 p (o ti)) Dl (.lst acc)) H' ∧ All2 cb G' acc oo ∧ lcH f (ds.take i) t0 = some (oo, ti), ⟨ds.length, G2, [], [], t0, by simp, Nat.zero_le _, Le.refl _, by rw [m0]; exact S2.newM hD, trivial, by simp [lcH]⟩, ?_⟩
    rintro i m H' ⟨G', acc, oo, ti, rfl, hi, e', S', r', hq⟩
    by_cases hlt : i < ds.length
    · refine .inr ⟨wk.go i H' G' _ e' S' hlt, fun H3 => ∃ G3 acc oo tj, Le G' G3 ∧ Sta G3 (upd (upd M1 p (o tj)) Dl (.lst acc)) H3 ∧ All2 cb G3 acc oo ∧ lcH f (ds.take (i + 1)) t0 = some (oo, tj), ?_, ?_⟩
      · rintro H3 ⟨G3, acc3, o3, tj, e3, S3, r3, q3⟩
        exact ⟨ds.length - (i + 1), by omega, G3, acc3, o3, tj, rfl, hlt, e'.trans e3, S3, r3, q3⟩
      · intro x H3 hy
        obtain ⟨d, G3, hd3, e3, S3, r3⟩ := wk.yld i H' G' _ x H3 e' S' hlt hy
        have hm : d ∈ ds := List.mem_of_getElem? hd3
        obtain ⟨o', ti', ob, k1, hob⟩ := lcH_mid i d hf hd3
        rw [k1] at hq
        cases hq
        have ht : ds.take (i + 1) = ds.take i ++ [d] := by
          rw [List.take_add_one, hd3]
          rfl
        have hsn := lcH_snoc k1 (show f ti d = some (ob.1, ob.2) from hob)
        rw [← ht] at hsn
        have hal : acc.length < sizeLine := by
          have z1 := lcH_len k1
          rw [List.length_take] at z1
          rw [r'.length]
          omega
        refine gmono x H3 _ _ ?_ (turn d x G3 H3 ti ob hm ((e0.trans e2).trans (e'.trans e3)) S3.g r3 hob)
        rintro σ2 H4 ⟨rfl, hwp, hb⟩
        obtain ⟨b, tm, hb, k1, k2⟩ := hb (upd M1 Dl (.lst acc))
        have cm : ∀ z : τ, upd (upd M1 Dl (.lst acc)) p (o z) = upd (upd M1 p (o z)) Dl (.lst acc) := fun z => upd_comm (Ne.symm pD)
        rw [cm, cm] at hb
        refine ⟨hwp, hb G3 H4 (Le.refl _) S3 _ fun G4 H5 e4 S4 => ?_⟩
        cases b with
        | true =>
          rw [if_pos rfl]
          obtain ⟨y, ey, hy⟩ := k1 rfl
          rw [cm, cm] at hy
          rw [ey] at hsn
          refine hy G4 H5 e4 S4 _ fun v G5 H6 e5 S5 r5 => ⟨acc, S5.m _ _ upd_same, hal, G5, acc ++ [v], oo ++ [y], ob.2, (e3.trans e4).trans e5, ?_, All2.snoc (r'.mono ((e3.trans e4).trans e5)) r5, hsn⟩
          have z := S5.put (o := .lst (acc ++ [v])) upd_same
          rw [upd_upd] at z
          exact z
        | false =>
          rw [if_neg Bool.false_ne_true]
          have k3 := k2 rfl
          rw [k3] at hsn
          refine ⟨G4, acc, oo, tm, e3.trans e4, S4, r'.mono (e3.trans e4), ?_⟩
          rw [hsn]
          simp
    · have e : ds.take i = ds := List.take_of_length_le (by omega)
      rw [e, hf] at hq
      cases hq
      exact .inl ⟨wk.stop i H' G' _ e' S' (by omega), q Dl (.lst acc) G' H' (e2.trans e') (by rw [upd_ne (Ne.symm pD)]; exact mD) S' ⟨acc, rfl, r'⟩⟩
end
end GL
/-! GX1: exceptions of the program's own classes as values. -/
namespace PySem.W
open PySem PySem.Spec PySem.Calls PyProof.Rows
/-- x.__class__ of an exception, with or without a dict of its own -/
theorem gx_class {prog : Program} {w : World} {A : Around} {E : Value → Shared → Prop} {s : Shared} {K : Frag} {x D : Addr} {ox : Obj} {od : Option Obj} {Q : Option Value → Shared → Prop}
    (T : L2.ExcC K D) (hf : findObj K D od "__class__" = some (.bind (.builtin "getset_descriptor.__get__") (.builtin "object.__class__"))) (X : K.In s.heap) (I : InstAt s.heap x ox D od)
    (h : Q (some (.ref D)) { s with toks := s.toks + 1 }) : wpAny (model prog w) A (getAttr? (.ref x) "__class__") Q E s := by
  obtain ⟨hp, g, d, t, os⟩ := s
  have Ty := I.type (M := model prog w)
  have Ga := looks_findIn (M := model prog w) X T.hg
  have Gg := looks_findIn (M := model prog w) X T.hk
  have Fo := looks_find (M := model prog w) X I hf
  have sb : Looks (model prog w) hp (isInstance (.ref x) (.type "BaseException")) true := Ty.andThen (looks_subIn X T.hs)
  have b2 : (Value.builtin "BaseException.__getattribute__" == Value.builtin "object.__getattribute__") = false := by decide +kernel
  have b1 : (onTheHeap (Value.ref D) && Value.builtin "BaseException.__getattribute__" == Value.builtin "object.__getattribute__") = false := by rw [b2]; rfl
  unfold getAttr? getAttrBy? getAttrBy
  refine wpAny_bind (wpAny_mkText (wpAny_bind (wpAny_attempt (wpAny_holding (wpAny_bind (Ty.at (wpAny_bind (Ga.at ?_))))))))
  show wpAny _ _ (ite ((onTheHeap (Value.ref D) && Value.builtin "BaseException.__getattribute__" == Value.builtin "object.__getattribute__") = true) _ _) _ _ _
  rw [b1, if_neg Bool.false_ne_true]
  unfold getAttrByItsOwn hookBefore
  refine wpAny_bind ?_
  rw [if_pos (show onTheHeap (Value.ref D) = true from rfl)]
  refine Gg.at ?_
  refine wpAny_bind (wpAny_attempt (wpAny_holding ?_))
  unfold callGetattribute
  rw [show (false && onTheHeap (Value.builtin "BaseException.__getattribute__")) = false from rfl, if_neg Bool.false_ne_true]
  unfold boundAndCalled
  rw [PySem.F.excAttr_ValueError.ga.bind (.ref x)]
  refine wpAny_bind (wpAny_pure ?_)
  show wpAny _ _ (call (Value.builtin "BaseException.__getattribute__") [Value.ref x, Value.str "__class__" t]) _ _ _
  refine wpAny_call (codeAny_call_builtin PySem.F.excAttr_ValueError.ga.plain PySem.F.entry_bexc_ga ?_)
  refine @check_slot (model prog w) _ _ ⟨hp, g, d, t + 1, os⟩ "BaseException.__getattribute__" "BaseException" "__getattribute__" (Value.ref x) [Value.str "__class__" t] [] _ (by decide +kernel) (by decide +kernel) sb (PySem.F.args_bexc_ga (Value.ref x) (Value.str "__class__" t)) ?_
  unfold Builtin.«object.__getattribute__»
  refine wpAny_bind (wpAny_of_eq (a := ((Value.ref x : Value), [Value.str "__class__" t])) (by first | rfl | (simp only [slotArgs] <;> rfl)) ?_)
  refine wpAny_bind (wpAny_pure (wpAny_bind (Ty.at (wpAny_bind (Fo.at ?_)))))
  show wpAny _ _ (holding [Value.builtin "object.__class__"] (call (Value.builtin "getset_descriptor.__get__") [Value.builtin "object.__class__", Value.ref x, Value.ref D]) >>= ret) _ _ _
  refine wpAny_bind (wpAny_holding (wpAny_call (class_get (s := ⟨hp, g, d, t + 1, os⟩) (ox := ox) (od := od) X I T.hm ?_)))
  refine wpAny_pure ?_
  show wpAny _ _ (handedOut (Value.ref D)) _ _ _
  rw [handedOut_of (v := Value.ref D) rfl]
  first
    | (exact wpAny_pure (wpAny_pure h))
    | (exact wpAny_pure h)
    | (exact wpAny_pure (wpAny_bind (wpAny_pure (wpAny_pure h))))
theorem gx_kitx {K : Frag} {x D : Addr} {ox : Obj} {od : Option Obj} (T : L2.ExcC K D) : KitX K (.ref x) (.ref D) (fun h => InstAt h x ox D od) := by
  have Z := handS_kitx_exc (x := x) (ox := ox) T.hg T.hk T.hs T.hd T.ha T.hn T.ht T.hm
  have hc : (clsIn K D).isSome = true := by obtain ⟨cd, hc, _⟩ := any_some T.hd; rw [hc]; rfl
  refine ⟨fun _ _ _ I => I.type, fun M h X I => ?_, fun h tp dd its n sl X e => ?_, fun X I k => gx_class T ?_ X I k⟩
  · obtain ⟨cdD, hcD, _⟩ := any_some T.hd
    unfold clsIn at hcD
    split at hcD
    · rename_i c' d' cd' sl' ho
      intro A' Q' E' s' k q
      unfold isType loadHead
      exact wpAny_bind (wpAny_loadPart (k _ _ (X _ _ ho)) (wpAny_pure q))
    · cases hcD
  · exact Z.ne h tp dd its n sl X e
  · cases od with
    | none => exact findObj_dataN hc T.ha T.hn T.ht
    | some od => exact findObj_data hc T.ha T.hn T.ht
end PySem.W
namespace GL
open PySem PySem.Spec PyProof.Rows L2
/-- an exception of the class at D, its fields told or none -/
def IsX (H : Hp) (a D : Addr) (fs : List (Str × V)) : Prop :=
  (fs = [] ∧ H a = some (ExO (.ref D) a)) ∨ ∃ dx, H a = some (exo a D (some dx)) ∧ H dx = some (exd dx fs)
theorem IsX.mono {G G' : Hp} {a D : Addr} {fs : List (Str × V)} (e : Le G G') (h : IsX G a D fs) : IsX G' a D fs := by
  rcases h with ⟨h0, h⟩ | ⟨dx, h1, h2⟩
  · exact .inl ⟨h0, e.1 _ _ h rfl⟩
  · exact .inr ⟨dx, e.1 _ _ h1 rfl, e.1 _ _ h2 rfl⟩
theorem isX_inst {P : Program} {w : World} {H : Hp} {h : Heap} {a D : Addr} {fs : List (Str × V)} (hok : HOk P w H h) (e : IsX H a D fs) : ∃ ox od, PySem.W.InstAt h a ox D od := by
  rcases e with ⟨_, e⟩ | ⟨dx, e1, e2⟩
  · obtain ⟨⟨oe, vs, ho, hz, hd, _⟩, _⟩ := hok a _ e
    refine ⟨oe, none, ho, hz.1, ?_, ?_⟩
    · unfold PySem.W.notCls; rw [hd] <;> rfl
    · rw [hz.2]; exact True.intro
  · obtain ⟨t1, ho⟩ := exo_at hok e1
    obtain ⟨mA, ⟨o, es, ep, hd, _⟩, _⟩ := exd_at hok e2
    exact ⟨_, some o, ho, rfl, rfl, hd⟩
/-- isinstance(e, c), e an exception as a value -/
def rIsX (K : PySem.W.Frag) : List V → Hp → VK → Prop := fun xs H Q => ∃ (a D : Addr) (fs : List (Str × V)) (c : V) (cv : Value) (b : Bool), xs = [.ref a, c] ∧ ExcC K D ∧ IsX H a D fs ∧ ClsV c cv ∧ PySem.W.kitOne K (.ref D) cv = some b ∧ Q (.bl b) H
theorem call_isX {X : Cx} : CallR X (.builtin "isinstance") (rIsX X.K) := by
  intro pins s σ H xs us Q I r h
  obtain ⟨a, D, fs, c, cv, b, rfl, T, hx, hc, e, q⟩ := h
  obtain ⟨u1, u2, rfl, r1, r2⟩ := vals2 r
  cases (show u1 = Value.ref a from r1)
  cases hc.eq r2
  obtain ⟨ox, od, J⟩ := isX_inst I.hok hx
  exact PySem.W.kia_one (PySem.W.gx_kitx (ox := ox) (od := od) T) I.kIn J e (fun z => nomatch z) fun tk => ⟨.bl b, H, I.tok tk, rfl, q⟩
/-- e.f, e an exception as a value -/
def tXv (K : PySem.W.Frag) (f : Str) (te : TE) : TE := fun σ H Q => te σ H fun x H1 => ∃ (a C dx : Addr) (fs : List (Str × V)) (v : V), x = .ref a ∧ XfC K C ∧ PySem.W.findIn K (.ref C) f = some none ∧ H1 a = some (exo a C (some dx)) ∧ H1 dx = some (exd dx fs) ∧ fs.lookup f = some v ∧ Q v H1
theorem pe_xv {X : Cx} {e : Expr} {te : TE} {pos : Pos} {f : Str} (he : PE X e te) (hb : attributeBase e f X.env (eval e X.env) = eval e X.env := by rfl) : PE X (.Attribute e f pos) (tXv X.K f te) := by
  refine ⟨fun pins s σ H Q I h => ?_⟩
  refine attr_of hb (thn (he.run pins s σ H _ I h) fun u s1 ⟨x, H1, I1, rx, a, C, dx, fs, v, ex, T, hno, e1, e2, l, q⟩ => ?_)
  subst ex
  obtain rfl : u = Value.ref a := rx
  obtain ⟨t1, ho⟩ := exo_at I1.hok e1
  obtain ⟨mA, hns, hr⟩ := exd_at I1.hok e2
  obtain ⟨od, hod, hl⟩ := lookIn_ns hns
  obtain ⟨u, hu, ru⟩ := RelO.some_of (v := v) (o := mA f) (by rw [← l]; exact hr f)
  have J : PySem.W.InstAt s1.heap a { cls := .ref C, dict := some dx, data := .fields #[.ref t1, .none, .none, .none, .bool false, .none] } C (some od) := ⟨ho, rfl, rfl, hod⟩
  exact HandSPX.exc_get I1.kIn J T.ga T.gg T.exC (PySem.W.findObj_own T.hdC hno rfl (by rw [hl, hu])) (handed_of ru) ⟨v, H1, I1.tok _, ru, q⟩
/-- C(e, ..) as a value, C's own __init__ keeping sp -/
theorem pe_mkV {X : Cx} {CX : CXT} {x : Str} {C fI : Addr} {k : Nat} {fd : FuncData} {ps : List Str} {sp : Sp} {e : Expr} {es : List Expr} {p pos : Pos} {ta : TA} (T : OexC X.K C) (iC : PySem.W.findIn X.K (.ref C) "__init__" = some (some (.ref fI))) (tI : PySem.W.typeIn X.K (.ref fI) = some (.type "function"))
    (rd : List V → Hp → VK → Prop) (hrd : ∀ vs H1 Q, rd vs H1 Q → vs.length ≤ 1000 ∧ ∀ a, H1 a = none → sp (.ref a :: vs) (upd H1 a (exo a C none)) (fun v H2 => v = .non ∧ Q (.ref a) H2) (fun _ _ _ => False))
    (F1 : FnOk X.prog X.w X.K X.mg X.base CX k fI fd ps sp) (hr : Room (k + 1) X.A) (hb : Binds X.K fd ps []) (hx : Passes CX X (fun _ _ _ => False)) (hg : Gl X x) (hm : X.mg x = some (.ref C)) (ha : PA X (e :: es) ta)
    (hdb : (x == ("__debug__" : Str)) = false := by decide) (he : starEach (e :: es) X.env = (false, eval e X.env) :: starEach es X.env := by rfl) (hpl : (backTo pos (starEach es X.env)).any (·.1) = false := by rfl) :
    PE X (.Call (.Name x p) (e :: es) [] pos) (tCB rd ta) := by
  refine ⟨fun pins s σ H Q I h => ?_⟩
  obtain ⟨nm, q, N, bs, bm, sn, sub, ab, col, dd, k0, k1, k2, k3, k5, hC, hbm⟩ := T.cls
  refine wpAny_Call_Name_kw (ld_glob I hg hm ?_ hdb)
  refine PySem.W.callWith_K (h₀ := X.base) I.ok.mod.kin T.kC (thn (ha.run pos pins s σ H _ I h) fun us s1 ⟨vs, H1, I1, r1, hh⟩ => ⟨I1.kIn, ?_⟩) he hpl
  show wpAny _ _ (call (Value.ref C) us) _ _ _
  obtain ⟨hz, q1⟩ := hrd _ _ _ hh
  obtain ⟨hp, g, dr, tk, os⟩ := s1
  have le1 : hp.objs.size ≤ hp.objs.size + 1 := Nat.le_succ _
  have hn : H1 (hp.objs.size + 1) = none := I1.hok.fresh le1
  have hq := q1 (hp.objs.size + 1) hn
  have keep : ∀ b o, hp.get? b = some o → ((hp.push (PySem.W.kdv_tup us)).push (HandSPX.excO C hp.objs.size)).get? b = some o := fun b o e => Heap.get?_push_of_some _ (Heap.get?_push_of_some _ e)
  have hget : ((hp.push (PySem.W.kdv_tup us)).push (HandSPX.excO C hp.objs.size)).get? (hp.objs.size + 1) = some (HandSPX.excO C hp.objs.size) := by heap_get
  have I2 : Inv X pins σ (upd H1 (hp.objs.size + 1) (exo (hp.objs.size + 1) C none)) ⟨(hp.push (PySem.W.kdv_tup us)).push (HandSPX.excO C hp.objs.size), g, dr, tk, os⟩ :=
    I1.laid (t' := tk) (a := hp.objs.size + 1) (o := exo (hp.objs.size + 1) C none) (h' := (hp.push (PySem.W.kdv_tup us)).push (HandSPX.excO C hp.objs.size)) keep le1 (exo_ok hget)
  have r2 : Vals (V.ref (hp.objs.size + 1) :: vs) (Value.ref (hp.objs.size + 1) :: us) := .cons rfl r1
  have hl : (Value.ref (hp.objs.size + 1) :: us).length = ps.length := (r2.length.symm).trans (F1.len _ _ _ _ hq)
  have hus : us.length ≤ sizeLine := by
    rw [← Paired.length r1, sizeLine_eq]
    omega
  have hbb := hb _ (Value.ref (hp.objs.size + 1) :: us) I2.kIn (by simpa using hl)
  refine wpAny_call (HandSPX.call_own F.excBase_ValueError (fun Y => HandSPX.refsVE_contains Y bm hbm) (I1.kIn _ _ hC) (PySem.W.looks_findIn I1.kIn iC) (fun self => PySem.W.bind_fn I1.kIn self tI) hus
    (codeAny_mono (F1.run _ X.stack _ _ ⟨Value.ref (hp.objs.size + 1) :: us, []⟩ (Value.ref (hp.objs.size + 1) :: us) _ _ (fun _ _ _ => False) (hr.make C us []) (I2.env0.make C us []) (by simpa using hbb) r2 hq) fun r s' hq' => ?_))
  cases r with
  | error er => exact hx pins σ _ _ er s' I2 hq'
  | ok fl =>
    cases fl with
    | ret u =>
      obtain ⟨v, H2, os2, bare2, un2, hok2, rv, ev, q2⟩ := hq'
      subst ev
      exact ⟨rv, .ref (hp.objs.size + 1), H2, I2.call' (ch := []) os2 un2 hok2 bare2 (fun b z => absurd z (by simp)), rfl, q2⟩
    | next => exact False.elim hq'
    | brk => exact False.elim hq'
    | cont => exact False.elim hq'
/-- C(), C without own __init__, as a value -/
theorem pe_exc0 {X : Cx} {C : Addr} {bmB : List Value} {B newId initId : String} {x : Str} {p pos : Pos} (F : ExcBaseFacts B newId initId bmB) (q : PySem.W.excIn X.K C bmB newId = true) (gC : X.mg x = some (.ref C)) (kC : PySem.W.keepIn X.K (.ref C) = true) (hg : Gl X x)
    (hdb : (x == ("__debug__" : Str)) = false := by decide) :
    PE X (.Call (.Name x p) [] [] pos) (fun _ H Q => ∀ a, H a = none → Q (.ref a) (upd H a (ExO (.ref C) a))) := by
  refine ⟨fun pins s σ H Q I h => ?_⟩
  refine wpAny_Call_Name_kw (ld_glob I hg gC ?_ hdb)
  refine PySem.W.callWith_K0 I.kIn kC ?_
  show wpAny _ _ (call (Value.ref C) []) _ _ _
  obtain ⟨bm, N, nm, qn, bs, hdct, sn, sub, ab, col, dd, k0, k1, k2, k3, k5, mN, hC, hN, hni, T⟩ := exc_obj I.kIn q
  refine wpAny_call_exc_subT F T hC hN hni (fun h' a hm => ?_) (by show 0 ≤ sizeLine; exact Nat.zero_le _)
  have hn : H a = none := I.hok.gone hm.new
  obtain ⟨t, ht, _, _⟩ := hm.there
  exact ⟨.ref a, upd H a (ExO (.ref C) a), I.laidN hm.keeps hm.new hn (exO_ok ht ⟨rfl, rfl⟩ rfl rfl rfl (show 4 < 6 by decide)), rfl, h a hn⟩
end GL
/-! GX2: defs that are entered where no repr is under way. -/
namespace GL
open PySem PySem.Spec PyProof.Rows L2
/-- FnOk where no repr is under way -/
structure FnOkG (P : Program) (w : World) (K : PySem.W.Frag) (mg : Str → Option Value) (base : Heap) (CX : CXT) (k : Nat) (f : Addr) (fd : FuncData) (ps : List Str) (sp : Sp) : Prop where
  len : ∀ vs H Q E, sp vs H Q E → vs.length = ps.length
  run : ∀ (A : Around) (outer : List Env) (s : Shared) (H : Hp) (args : Args) (us : List Value) (vs : List V) (Q : VK) (E : XK), Room k A → A.guards = some [] → Env0 P w K mg base A outer s H → BindsTo s fd args (ps.zip us) → Vals vs us → sp vs H Q E →
    codeAny (model P w) A (.call (.ref f) args) (CR CX outer P w H s Q E) s
theorem FnOkG.mono {P : Program} {w : World} {K : PySem.W.Frag} {mg : Str → Option Value} {base : Heap} {CX : CXT} {j k : Nat} {f : Addr} {fd : FuncData} {ps : List Str} {sp : Sp} (F : FnOkG P w K mg base CX j f fd ps sp) (h : j ≤ k) :
    FnOkG P w K mg base CX k f fd ps sp := ⟨F.len, fun A outer s H args us vs Q E hr hg => F.run A outer s H args us vs Q E (hr.mono h) hg⟩
theorem fn_ofG {CX : CXT} {P : Program} {w : World} {K : PySem.W.Frag} {mg : Str → Option Value} {base : Heap} {k : Nat} {f : Addr} {name qual : Str} {params : Arguments} {body : List Stmt} {scope : Scope} {dV kV doc pm cdv ct oc : Value} {an od : Option Addr}
    {osl : Array (Option Value)} {N ps : List Str} {sp : Sp} (lk : K.lookup f = some ⟨oc, od, .func (PySem.W.fnOf name qual params body scope dV kV doc pm an cdv ct), osl⟩) (hcd : PySem.W.codeIn K cdv qual = true) (S : FnScope N ps scope)
    (ln : ∀ vs H Q E, sp vs H Q E → vs.length = ps.length)
    (hbody : ∀ (A : Around) (outer : List Env) (s : Shared) (H : Hp) (vs : List V) (Q : VK) (E : XK), Room k (A.deeper (envOfC qual scope s.heap.objs.size f cdv)) → (A.deeper (envOfC qual scope s.heap.objs.size f cdv)).guards = some [] → sp vs H Q E →
      ∃ t, PSs (cxOf CX P w K mg base N qual scope f cdv A outer s H E) body t ∧ t { nx := fun _ H' => Q .non H', rt := Q } (start N vs) H) :
    FnOkG P w K mg base CX (k + 1) f (PySem.W.fnOf name qual params body scope dV kV doc pm an cdv ct) ps sp := by
  refine ⟨ln, fun A outer s H args us vs Q E room gu env hb rel hsp => ?_⟩
  have hlen := ln _ _ _ _ hsp
  have kin : K.In s.heap := env.mod.kin.keeps fun b o e => (env.bs b o e).1
  have nol : s.heap.NoLimit := env.mod.nolimit.keeps fun b o e => (env.bs b o e).1
  have kinds : ∀ y ∈ ps.zip us, scope.names.lookup y.1 = some .local ∨ (scope.names.lookup y.1 = some .cell ∧ ((cellsFrom (s.heap.objs.size + 1) scope.names []).lookup y.1).isSome = true) := by
    rintro ⟨n, v⟩ hy
    rcases S.par n (List.of_mem_zip hy).1 with z | z
    · exact Or.inl z
    · exact Or.inr ⟨z, PySem.W.cellsFrom_some _ _ _ (Or.inl z)⟩
  refine codeAny_call_function room.depth (kin _ _ lk) rfl S.co S.gen rfl (PySem.W.codeRec_of kin hcd) (hb _ _ _ _ ?_)
  refine wpAny_newFunctionEnv_cells S.kind kinds fun en hen s1 hx => ?_
  subst hen
  refine ⟨nol.keeps hx.toInCall.keep, codeAny_func ?_⟩
  obtain ⟨t, ht, hq⟩ := hbody A outer s H vs Q E (room.deeper _) gu hsp
  have J0 : Inv (cxOf CX P w K mg base N qual scope f cdv A outer s H E) [] (start N vs) H s1 := inv_start S room.hd env hlen rel hx
  have fin : ∀ {s' : Shared} {τ : L2.St} {H' : Hp} {v : V} {u : Value}, Inv (cxOf CX P w K mg base N qual scope f cdv A outer s H E) [] τ H' s' → RelV v u → Q v H' → CE outer P w H s Q u s' :=
    fun {s' τ H' v u} J rv q => ⟨v, H', J.os, J.bare, J.base, J.hok, rv, q⟩
  refine wpAny_mono (ht.run [] s1 (start N vs) H _ J0 hq) (fun fl s' hs => ?_) fun e s' hs => hs
  cases fl with
  | ret u => obtain ⟨v, τ, H', J, rv, q⟩ := hs; exact fin J rv q
  | next => obtain ⟨τ, H', J, q⟩ := hs; exact fin (v := V.non) (u := Value.none) J rfl q
  | brk => obtain ⟨_, _, _, q⟩ := hs; exact q.elim
  | cont => obtain ⟨_, _, _, q⟩ := hs; exact q.elim
/-- a def of the module, by its name, and what it promises where no repr is under way -/
structure FnG (P : Program) (w : World) (K : PySem.W.Frag) (mg : Str → Option Value) (base : Heap) (CX : CXT) (k : Nat) (x : Str) (ps : List Str) (sp : Sp) : Prop where
  ex : ∃ f fd, mg x = some (.ref f) ∧ PySem.W.keepIn K (.ref f) = true ∧ Binds K fd ps [] ∧ FnOkG P w K mg base CX k f fd ps sp
theorem FnG.mono {P : Program} {w : World} {K : PySem.W.Frag} {mg : Str → Option Value} {base : Heap} {CX : CXT} {k j : Nat} {x : Str} {ps : List Str} {sp : Sp} (F : FnG P w K mg base CX k x ps sp) (h : k ≤ j) : FnG P w K mg base CX j x ps sp :=
  let ⟨f, fd, a, b, c, d⟩ := F.ex
  ⟨f, fd, a, b, c, d.mono h⟩
section
variable {X : Cx} {CX : CXT} {k : Nat} {x : Str} {ps : List Str} {sp : Sp} {E : XK} {p pos : Pos} {e : Expr} {es : List Expr} {t : TA}
theorem pe_callG (F : FnG X.prog X.w X.K X.mg X.base CX k x ps sp) (room : Room k X.A) (gu : X.A.guards = some []) (hx : Passes CX X E) (ha : PA X (e :: es) t) (hg : Gl X x := by rfl) (hdb : (x == ("__debug__" : Str)) = false := by decide)
    (he : starEach (e :: es) X.env = (false, eval e X.env) :: starEach es X.env := by rfl) (hpl : (backTo pos (starEach es X.env)).any (·.1) = false := by rfl) :
    PE X (.Call (.Name x p) (e :: es) [] pos) (tCall sp [] E t) := by
  obtain ⟨f, fd, hm, hk, hb, FO⟩ := F.ex
  refine ⟨fun pins s σ H Q I h => ?_⟩
  refine wpAny_Call_Name_kw (ld_glob I hg hm ?_ hdb)
  refine PySem.W.callWith_K (h₀ := X.base) I.ok.mod.kin hk (thn (ha.run pos pins s σ H _ I h) fun us s1 ⟨vs, H1, J, r, q⟩ => ⟨J.kIn, ?_⟩) he hpl
  have q' : sp (vs ++ []) H1 Q E := q
  rw [List.append_nil] at q'
  have hl : us.length = ps.length := r.length.symm.trans (FO.len _ _ _ _ q')
  have hbb := hb s1 us J.kIn (by simpa using hl)
  show wpAny _ _ (call (Value.ref f) us) _ _ _
  refine wpAny_call (codeAny_mono (FO.run X.A X.stack s1 H1 ⟨us, []⟩ us vs Q E room gu J.env0 (by simpa using hbb) r q') fun r s' hq => ?_)
  cases r with
  | error er => exact hx pins σ H1 s1 er s' J hq
  | ok fl =>
    cases fl with
    | ret u => exact J.after hq
    | next => exact hq.elim
    | brk => exact hq.elim
    | cont => exact hq.elim
end
theorem fnok_byG {P : Program} {w : World} {K : PySem.W.Frag} {mg : Str → Option Value} {base : Heap} {k : Nat} {x qual : Str} {N ps : List Str} {st : Stmt} {f : Addr} {fd : FuncData} {sp : Sp} (F : FunD K x qual (defArgs st) (defBody st) (defScope st) [] [] f fd) (S : FnScope N ps (defScope st))
    (ln : ∀ vs H Q E, sp vs H Q E → vs.length = ps.length)
    (hbody : ∀ (cdv : Value) (A : Around) (outer : List Env) (s : Shared) (H : Hp) (vs : List V) (Q : VK) (E : XK), Room k (A.deeper (envOfC qual (defScope st) s.heap.objs.size f cdv)) → (A.deeper (envOfC qual (defScope st) s.heap.objs.size f cdv)).guards = some [] → sp vs H Q E →
      ∃ t, PSs (cxOf CX0 P w K mg base N qual (defScope st) f cdv A outer s H E).nox (defBody st) t ∧ t { nx := fun _ H' => Q .non H', rt := Q } (start N vs) H) : FnOkG P w K mg base CX0 (k + 1) f fd ps sp := by
  obtain ⟨oc, od, dV, kV, doc, pm, an, cdv, ct, osl, rfl, lk, hcd, _, _⟩ := F.ex
  refine fn_ofG lk hcd S ln fun A outer s H vs Q E hr hg h => ?_
  obtain ⟨t, h1, h2⟩ := hbody cdv A outer s H vs Q E hr hg h
  exact ⟨t, h1.nox, h2⟩
theorem fn_byG {P : Program} {w : World} {K : PySem.W.Frag} {mg : Str → Option Value} {base : Heap} {k : Nat} {x qual : Str} {N ps : List Str} {st : Stmt} {f : Addr} {sp : Sp} (hmg : mg x = some (.ref f)) (F : ∃ fd, FunD K x qual (defArgs st) (defBody st) (defScope st) [] [] f fd) (S : FnScope N ps (defScope st))
    (ln : ∀ vs H Q E, sp vs H Q E → vs.length = ps.length)
    (hb : ∀ (kV doc pm : Value) (an : Option Addr) (cdv ct : Value) (us : List Value), us.length = ps.length → bindArgs (PySem.W.fnOf x qual (defArgs st) (defBody st) (defScope st) .none kV doc pm an cdv ct) ⟨us, []⟩ = pure (ps.zip us))
    (hbody : ∀ (cdv : Value) (A : Around) (outer : List Env) (s : Shared) (H : Hp) (vs : List V) (Q : VK) (E : XK), Room k (A.deeper (envOfC qual (defScope st) s.heap.objs.size f cdv)) → (A.deeper (envOfC qual (defScope st) s.heap.objs.size f cdv)).guards = some [] → sp vs H Q E →
      ∃ t, PSs (cxOf CX0 P w K mg base N qual (defScope st) f cdv A outer s H E).nox (defBody st) t ∧ t { nx := fun _ H' => Q .non H', rt := Q } (start N vs) H) : FnG P w K mg base CX0 (k + 1) x ps sp := by
  obtain ⟨fd, F⟩ := F
  exact ⟨f, fd, hmg, F.kp, F.bindsN hb, fnok_byG F S ln hbody⟩
end GL
/-! GX3: a law's end where the law's def is entered with no repr under way. -/
namespace GL
open PySem PySem.Spec PyProof.Rows L2
theorem law_callG {P : Program} {w : World} {K : PySem.W.Frag} {mg mb : Str → Option Value} {k : Nat} {fa a : Addr} {fd : FuncData} {x : Str} {sp : Sp} {s₁ : Shared} {vs : List Value} {ns : List Int}
    (kx : K.In s₁.heap) (gns : s₁.heap.Ns mainGlobals mg) (bns : s₁.heap.Ns builtinsNs mb) (boot : ∀ x : Str, x ≠ "__name__" → mb x = bootBuiltins x) (nol : s₁.heap.NoLimit) (gens : s₁.gens = #[])
    (ob : s₁.heap.get? a = some { cls := .type "list", data := .seq vs.toArray }) (iv : IntsAre vs ns) (short : ns.length ≤ sizeLine) (room : Room k callerA)
    (F : ∀ base : Heap, K.In base → base.Ns mainGlobals mg → FnOkG P w K mg base CX0 k fa fd [x] sp) (bind : ∀ (s : Shared) (u : Value), BindsTo s fd ⟨[u], []⟩ [(x, u)])
    (hsp : ∀ H : Hp, Only H → SqL K H a (ns.map V.int) → sp [.ref a] H (fun v _ => v = .bl true) fun _ _ _ => False) :
    codeAny (model P w) callerA (.call (.ref fa) ⟨[.ref a], []⟩) (fun r s' => r = .ok (.ret (.bool true)) ∧ OldK s₁.heap s'.heap ∧ s'.os = s₁.os ∧ AllBare s'.gens) s₁ := by
  have rv := vals_ints iv
  have ln := iv.length
  have main : ∀ H : Hp, Only H → SqL K H a (ns.map V.int) → HOk P w H s₁.heap → (∀ b, H b ≠ none → b = a) → (H a ≠ none → K.lookup a = none) →
      codeAny (model P w) callerA (.call (.ref fa) ⟨[.ref a], []⟩) (fun r s' => r = .ok (.ret (.bool true)) ∧ OldK s₁.heap s'.heap ∧ s'.os = s₁.os ∧ AllBare s'.gens) s₁ := by
    intro H only sq hok hA hK
    have kept : ∀ {b : Addr} {o : Obj}, s₁.heap.get? b = some o → H b = none → (hidT s₁.heap H).get? b = some o := fun e n => hidT_get e n
    have dictOut : ∀ {b : Addr} {o : Obj} {es : Array DictEntry} {ep : Nat}, s₁.heap.get? b = some o → o.data = .dict es ep → H b = none := by
      intro b o es ep e d
      cases q : H b with
      | none => rfl
      | some u =>
        obtain rfl : b = a := hA b (by rw [q]; simp)
        rw [ob] at e
        cases e
        have z : Data.seq vs.toArray _ = Data.dict es ep := d
        cases z
    have nsOut : ∀ {b : Addr} {m : Str → Option Value}, s₁.heap.Ns b m → (hidT s₁.heap H).Ns b m := by
      rintro b m ⟨o, es, ep, e, d, r⟩
      exact ⟨o, es, ep, kept e (dictOut e d), d, r⟩
    have kb : K.In (hidT s₁.heap H) := by
      intro b o e
      refine kept (kx b o e) ?_
      cases q : H b with
      | none => rfl
      | some u =>
        obtain rfl : b = a := hA b (by rw [q]; simp)
        rw [hK (by rw [q]; simp)] at e
        cases e
    have md : Mod K mg (hidT s₁.heap H) := ⟨kb, nsOut gns, ⟨mb, nsOut bns, boot⟩, let ⟨mc, h1, h2⟩ := nol; ⟨mc, nsOut h1, h2⟩⟩
    have env : Env0 P w K mg (hidT s₁.heap H) callerA [] s₁ H := ⟨rfl, md, fun b o e => of_hidT e, Nat.le_of_eq (hidT_size _ _), trivial, fun b hb => absurd (show b ∈ ([] : List Addr) from hb) (by simp), hok, .of_eq gens⟩
    refine codeAny_mono ((F _ kb (nsOut gns)).run callerA [] s₁ H ⟨[.ref a], []⟩ [.ref a] [.ref a] _ _ room rfl env (bind s₁ (.ref a)) (.cons rfl .nil) (hsp H only sq)) fun r s' h => ?_
    cases r with
    | error e => exact (show False from h).elim
    | ok fl =>
      cases fl with
      | next => exact h.elim
      | brk => exact h.elim
      | cont => exact h.elim
      | ret u =>
        obtain ⟨v, H', os, bare, un, hok', r', q⟩ := h
        obtain rfl : v = .bl true := q
        obtain rfl : u = Value.bool true := r'
        refine ⟨rfl, OldK.of_keep fun b o e => ?_, os, bare⟩
        cases q : H b with
        | none => exact un.keep b o e q (fun z => absurd (show b ∈ ([] : List Addr) from z) (by simp)) (by simp)
        | some u =>
          rcases only b with z | ⟨ob, xs, z⟩
          · rw [q] at z; cases z
          · obtain ⟨e1, _⟩ := hok b _ z
            obtain ⟨e2, _⟩ := hok' b _ (un.frzs b ob _ z)
            rw [e] at e1
            cases e1
            exact e2
  cases hk : K.lookup a with
  | some o =>
    have e := kx a o hk
    rw [ob] at e
    cases e
    exact main (fun _ => none) (fun _ => .inl rfl) (.inr ⟨_, vs.toArray, _, hk, rfl, rfl, rfl, by rw [List.size_toArray, ln]; exact short, by simpa using rv⟩) (fun b u z => nomatch (show (none : Option HO) = some u from z)) (fun b z => absurd rfl z) fun z => absurd rfl z
  | none =>
    refine main (fun b => if b = a then some (.frz { cls := .type "list", data := .seq vs.toArray } (.lst (ns.map V.int))) else none) (fun b => ?_) (.inl (.inr ⟨{ cls := .type "list", data := .seq vs.toArray }, if_pos rfl⟩)) (fun b u z => ?_) (fun b z => ?_) fun _ => hk
    · by_cases hb : b = a
      · exact .inr ⟨_, _, if_pos hb⟩
      · exact .inl (if_neg hb)
    · by_cases hb : b = a
      · have z' := (if_pos hb).symm.trans z
        cases z'
        subst hb
        exact ⟨ob, by rw [List.length_map]; exact short, vs, _, rv, ob⟩
      · have z' := (if_neg hb).symm.trans z
        cases z'
    · by_cases hb : b = a
      · exact hb
      · exact absurd (if_neg hb) z
theorem walk_ofG {l : PySem.W.OpenLaw} {n k : Nat} {q : Program} {loose : List Str} {XP : (Str → Option Value) → Heap → Prop} {YP : World → Heap → Prop} {d : DefRec} {x : Str}
    (hn : l.most = some n) (hn2 : n ≤ sizeLine) (hdf : d.params.defaults = []) (room : Room k callerA)
    (F : ∀ (w : World) (mg : Str → Option Value) (fa : Addr) (h : Heap), YP w h → h.Ns mainGlobals mg → mg d.name = some (.ref fa) →
      ∃ (K : PySem.W.Frag) (fd : FuncData) (sp : Sp), K.In h ∧ (∀ (s : Shared) (u : Value), BindsTo s fd ⟨[u], []⟩ [(x, u)]) ∧
        (∀ (H : Hp) (a : Addr) (ns : List Int), ns.length ≤ n → Only H → SqL K H a (ns.map V.int) → sp [.ref a] H (fun v _ => v = .bl true) fun _ _ _ => False) ∧
        ∀ base : Heap, K.In base → base.Ns mainGlobals mg → FnOkG l.prog w K mg base CX0 k fa fd [x] sp) :
    PySem.W.WalkO q loose XP YP l.row.toRowW d [] (fun f vs => PySem.call f vs) := by
  refine Att.attach_call hn hdf fun w s₀ s₁ mg mb fa o pm cd doc a vs ns G Y ho hd hcd hmg hobj hints hlen gens => ?_
  obtain ⟨K, fd, sp, kx, bind, hsp, hF⟩ := F w mg fa _ Y G.T.g hmg
  exact law_callG kx G.T.g G.T.b G.T.builtins G.T.nolimit gens hobj hints (Nat.le_trans hlen hn2) room hF bind fun H hO hS => hsp H a ns hlen hO hS
end GL
/-! GX4: repr of data with dicts. -/
namespace GL
open PySem PySem.Spec PyProof.Rows L2
def keyD : Key → PyData
  | .inl i => .int i
  | .inr x => .str x
inductive FlatD : V → PyData → Prop
  | non : FlatD .non .none
  | bl (b : Bool) : FlatD (.bl b) (.bool b)
  | int (i : Int) : FlatD (.int i) (.int i)
  | str (x : Str) : FlatD (.str x) (.str x)
/-- v is the data d, of nesting at most n -/
def Dd (H : Hp) : Nat → V → PyData → Prop
  | 0 => FlatD
  | n + 1 => fun v d => FlatD v d ∨ (∃ a xs ds, v = .ref a ∧ H a = some (.lst xs) ∧ d = .list ds ∧ Paired (Dd H n) xs ds) ∨
      (∃ a xs ds, v = .ref a ∧ H a = some (.tup xs) ∧ d = .tuple ds ∧ Paired (Dd H n) xs ds) ∨
      ∃ a kvs ds, v = .ref a ∧ H a = some (.dK kvs) ∧ d = .dict ds ∧ Paired (fun (p : Key × V) (q : PyData × PyData) => q.1 = keyD p.1 ∧ Dd H n p.2 q.2) kvs ds
/-- what repr asks of a value -/
def Shw (P : Program) (w : World) (h : Heap) (u : Value) (d : PyData) : Prop := (∃ as, Reads h u d as) ∧ ∃ bs, ReadAtMost h d.depth bs ∧ ReprK P w bs h d.depth u d.shown
section
variable {P : Program} {w : World} {h : Heap}
theorem shw_flat {v : V} {u : Value} {d : PyData} (f : FlatD v d) (r : RelV v u) (sh : d.showable = true) (sz : d.shown.length ≤ sizeLine) : Shw P w h u d := by
  have k : ∃ as, Reads h u d as := by
    cases f with
    | non => cases r; exact ⟨_, .none⟩
    | bl b => cases r; exact ⟨_, .bool b⟩
    | int i => obtain ⟨t, rfl⟩ := r; exact ⟨_, .int i t⟩
    | str x => obtain ⟨t, rfl⟩ := r; exact ⟨_, .str x t⟩
  have hd : d.hasDict = false := by cases f <;> simp [PyData.hasDict]
  obtain ⟨as, k⟩ := k
  exact ⟨⟨as, k⟩, ReprK.of_reads k sh (PyData.noDict_hsm hd) sz⟩
theorem shw_all {F : V → PyData → Prop} (ih : ∀ v u d, F v d → RelV v u → d.showable = true → d.shown.length ≤ sizeLine → Shw P w h u d) : ∀ {xs : List V} {ds : List PyData} {us : List Value}, Paired F xs ds → Vals xs us →
    PyData.showableAll ds = true → (∀ t ∈ PyData.shownAll ds, t.length ≤ sizeLine) → (∃ as, ReadsAll h us ds as) ∧ ∃ bs, ReadAtMost h (PyData.depthAll ds) bs ∧ ReprAllK P w bs h (PyData.depthAll ds) us (PyData.shownAll ds) := by
  intro xs ds us p
  induction p generalizing us with
  | nil => intro r _ _; cases r; exact ⟨⟨_, .nil⟩, [], (fun _ z => nomatch z), by simp only [PyData.shownAll]; exact .nil⟩
  | @cons x d xs ds f _ k =>
    intro r sh sz
    cases r with
    | cons r1 r2 =>
      have sh' : d.showable = true ∧ PyData.showableAll ds = true := by simpa [PyData.showableAll] using sh
      obtain ⟨⟨as1, a1⟩, b1, m1, k1⟩ := ih _ _ _ f r1 sh'.1 (sz _ (by simp only [PyData.shownAll]; exact List.mem_cons_self ..))
      obtain ⟨⟨as2, a2⟩, b2, m2, k2⟩ := k r2 sh'.2 (fun t ht => sz t (by simp only [PyData.shownAll]; exact List.mem_cons_of_mem _ ht))
      refine ⟨⟨_, .cons a1 a2⟩, b1 ++ b2, ?_, ?_⟩
      · simp only [PyData.depthAll]
        exact (m1.mono (Nat.le_max_left _ _)).append (m2.mono (Nat.le_max_right _ _))
      · simp only [PyData.depthAll, PyData.shownAll]
        exact .cons ((k1.more fun b hb => List.mem_append_left _ hb).level_le (Nat.le_max_left _ _)) (k2.more_le (fun b hb => List.mem_append_right _ hb) (Nat.le_max_right _ _))
theorem shw_list {a : Addr} {o : Obj} {us : List Value} {n : Nat} {ds : List PyData} (h1 : h.get? a = some o) (h2 : o.cls = .type "list") (h3 : o.data = .seq us.toArray n) (sz : (listText (PyData.shownAll ds)).length ≤ sizeLine)
    (al : (∃ as, ReadsAll h us ds as) ∧ ∃ bs, ReadAtMost h (PyData.depthAll ds) bs ∧ ReprAllK P w bs h (PyData.depthAll ds) us (PyData.shownAll ds)) :
    (∃ as, Reads h (.ref a) (.list ds) as) ∧ ∃ bs, ReadAtMost h (PyData.list ds).depth (a :: bs) ∧ a ∉ bs ∧ ReprAllK P w bs h (PyData.depthAll ds) us (PyData.shownAll ds) := by
  obtain ⟨⟨as, k⟩, bs, m, q⟩ := al
  have r : Reads h (.ref a) (.list ds) _ := .list h1 h2 h3 (by simpa using k)
  exact ⟨⟨_, r⟩, bs, ReadAtMost.cons r (by simp only [PyData.depth]; omega) m, not_mem_of_deeper r (by simp only [PyData.depth]; omega) m, q⟩
theorem keys_ok {es : List DictEntry} {vs : List (Key × Value)} (p : PySem.Pairs (mixKind P w) es vs) : ∀ {kvs : List (Key × V)} {ds : List (PyData × PyData)} {F : V → PyData → Prop}, KV kvs vs → Paired (fun (p : Key × V) (q : PyData × PyData) => q.1 = keyD p.1 ∧ F p.2 q.2) kvs ds →
    (∃ ks : List V, Vals ks (es.map (·.key)) ∧ Paired FlatD ks (ds.map (·.1))) ∧ Vals (kvs.map (·.2)) (es.map (·.val)) ∧ Paired F (kvs.map (·.2)) (ds.map (·.2)) := by
  induction p with
  | nil => intro kvs ds F r q; cases r; cases q; exact ⟨⟨[], .nil, .nil⟩, .nil, .nil⟩
  | @cons e kv es vs he hv _ ih =>
    intro kvs ds F r q
    cases r with
    | cons r1 r2 =>
      cases q with
      | cons q1 q2 =>
        obtain ⟨⟨ks, i1, i2⟩, i3, i4⟩ := ih r2 q2
        obtain ⟨q1a, q1b⟩ := q1
        obtain ⟨r1a, r1b⟩ := r1
        refine ⟨?_, .cons (by show RelV _ e.val; rw [hv]; exact r1b) i3, .cons q1b i4⟩
        rcases keyIs_shape he with ⟨i, t, e1, e2⟩ | ⟨x, t, e1, e2⟩
        · exact ⟨.int i :: ks, .cons ⟨t, e2⟩ i1, .cons (by show FlatD _ (Prod.fst _); rw [q1a, r1a, e1]; exact .int i) i2⟩
        · exact ⟨.str x :: ks, .cons ⟨t, e2⟩ i1, .cons (by show FlatD _ (Prod.fst _); rw [q1a, r1a, e1]; exact .str x) i2⟩
theorem dd_shw {H : Hp} (hok : HOk P w H h) : ∀ (n : Nat) (v : V) (u : Value) (d : PyData), Dd H n v d → RelV v u → d.showable = true → d.shown.length ≤ sizeLine → Shw P w h u d
  | 0, v, u, d, f, r, sh, sz => shw_flat f r sh sz
  | n + 1, v, u, d, f, r, sh, sz => by
    rcases f with f | ⟨a, xs, ds, rfl, ha, rfl, p⟩ | ⟨a, xs, ds, rfl, ha, rfl, p⟩ | ⟨a, kvs, ds, rfl, ha, rfl, p⟩
    · exact shw_flat f r sh sz
    · obtain rfl : u = Value.ref a := r
      obtain ⟨_, its, m, rv, ho⟩ := (show ObjOk P w H h a (.lst xs) from hok a _ ha)
      have sz' : (listText (PyData.shownAll ds)).length ≤ sizeLine := by simpa only [PyData.shown] using sz
      have al := shw_all (dd_shw hok n) p rv (by simpa [PyData.showable] using sh) fun t ht => Nat.le_trans (listText_mem_le ht) sz'
      obtain ⟨rd, bs, rm, na, q⟩ := shw_list ho rfl rfl sz' al
      refine ⟨rd, a :: bs, rm, ?_⟩
      simp only [PyData.depth, PyData.shown]
      cases its with
      | nil => cases rv; cases p; simp only [PyData.shownAll, listText_nil]; exact ReprK.listEmpty ho rfl rfl
      | cons x l => exact ReprK.list ho rfl rfl na (by simpa using q.length_eq) (fun i y e => q.item i y (by simpa using e))
    · obtain rfl : u = Value.ref a := r
      obtain ⟨_, its, rv, o, h1, h2, m, h3⟩ := (show ObjOk P w H h a (.tup xs) from hok a _ ha)
      have sz' : (tupleText (PyData.shownAll ds)).length ≤ sizeLine := by simpa only [PyData.shown] using sz
      obtain ⟨⟨as, k⟩, bs, rm, q⟩ := shw_all (dd_shw hok n) p rv (by simpa [PyData.showable] using sh) fun t ht => Nat.le_trans (tupleText_mem_le ht) sz'
      have rr : Reads h (.ref a) (.tuple ds) _ := .tuple h1 h2 h3 (by simpa using k)
      have na : a ∉ bs := not_mem_of_deeper rr (by simp only [PyData.depth]; omega) rm
      refine ⟨⟨_, rr⟩, a :: bs, ReadAtMost.cons rr (by simp only [PyData.depth]; omega) rm, ?_⟩
      simp only [PyData.depth, PyData.shown]
      exact ReprK.tuple h1 h2 (by simpa using h3) na q
    · obtain rfl : u = Value.ref a := r
      obtain ⟨_, hsys, vs, rel, o, es, ep, h1, h2, h3, _, h5, _⟩ := (show ObjOk P w H h a (.dK kvs) from hok a _ ha)
      obtain ⟨⟨ks, i1, i2⟩, i3, i4⟩ := keys_ok h5 rel p
      have sz' : (dictText (PyData.shownKv ds)).length ≤ sizeLine := by simpa only [PyData.shown] using sz
      obtain ⟨s1, s2⟩ := PyData.showableKv_split ds (by simpa [PyData.showable] using sh)
      obtain ⟨⟨as1, a1⟩, b1, m1, k1⟩ := shw_all (P := P) (w := w) (h := h) (F := FlatD) (fun v u d f r => shw_flat f r) i2 i1 s1 fun t ht => let ⟨p, hp, hl⟩ := PyData.shownKv_key_le ds t ht; Nat.le_trans hl (Nat.le_trans (dictText_mem_le hp) sz')
      obtain ⟨⟨as2, a2⟩, b2, m2, k2⟩ := shw_all (dd_shw hok n) i4 i3 s2 fun t ht => let ⟨p, hp, hl⟩ := PyData.shownKv_val_le ds t ht; Nat.le_trans hl (Nat.le_trans (dictText_mem_le hp) sz')
      have rr : Reads h (.ref a) (.dict ds) _ := .dict h1 h2.1 h3 a1 a2
      have rm : ReadAtMost h (PyData.depthKv ds) (b1 ++ b2) := (m1.mono (PyData.depthAll_keys_le ds)).append (m2.mono (PyData.depthAll_vals_le ds))
      have na : a ∉ b1 ++ b2 := not_mem_of_deeper rr (by simp only [PyData.depth]; omega) rm
      refine ⟨⟨_, rr⟩, a :: (b1 ++ b2), ReadAtMost.cons rr (by simp only [PyData.depth]; omega) rm, ?_⟩
      simp only [PyData.depth, PyData.shown, PyData.shownKv_eq]
      exact ReprK.dict h1 h2.1 h3 hsys na (ReprEntriesK.of_two es.toList _ _
        (k1.more_le (fun b hb => List.mem_append_left _ hb) (PyData.depthAll_keys_le ds)) (k2.more_le (fun b hb => List.mem_append_right _ hb) (PyData.depthAll_vals_le ds)))
end
/-- repr(l), l a list of data -/
def rReprL : List V → Hp → VK → Prop := fun xs H Q => ∃ (a : Addr) (ys : List V) (n : Nat) (ds : List PyData), xs = [.ref a] ∧ n ≤ 20 ∧ H a = some (.lst ys) ∧ Paired (Dd H n) ys ds ∧ PyData.showableAll ds = true ∧ (listText (PyData.shownAll ds)).length ≤ sizeLine ∧ PyData.depthAll ds ≤ 20 ∧
  Q (.str (listText (PyData.shownAll ds))) H
theorem call_reprL {X : Cx} (gu : X.A.guards = some []) (room : X.A.units + 64 < cLine) : CallR X (.builtin "repr") rReprL := by
  intro pins s σ H xs us Q I r hh
  obtain ⟨a, ys, n, ds, rfl, hn, ha, p, sh, sz, dp, q⟩ := hh
  obtain ⟨u, rfl, r1⟩ := vals1 r
  obtain rfl : u = Value.ref a := r1
  obtain ⟨_, its, m, rv, ho⟩ := (show ObjOk X.prog X.w H s.heap a (.lst ys) from I.hok a _ ha)
  have al := shw_all (dd_shw I.hok n) p rv sh fun t ht => Nat.le_trans (listText_mem_le ht) sz
  obtain ⟨rd, bs, rm, na, k⟩ := shw_list ho rfl rfl sz al
  have fin : ∀ h' u tk, (∀ b o, s.heap.get? b = some o → h'.get? b = some o) → EP X pins σ Q (.str (listText (PyData.shownAll ds)) u) { s with heap := h', toks := tk } := fun h' u tk hk => ⟨.str _, H, I.kept (t' := tk) hk, ⟨u, rfl⟩, q⟩
  refine call_repr_slot (by omega) ⟨_, ho, rfl⟩ F.slot_list_repr.toG ?_
  cases its with
  | nil =>
    cases rv
    cases p
    refine call_list_repr_empty ⟨_, ho, rfl⟩ ho rfl ⟨_, _, rfl, ?_⟩
    have z := fin s.heap s.toks (s.toks + 1) fun _ _ e => e
    simpa only [PyData.shownAll, listText_nil] using z
  | cons x l =>
    exact call_list_reprK ho rfl rfl na (by simpa using k.length_eq) (fun i y e => k.item i y (by simpa using e)) (show X.A.in1.guards = some [] from gu) (fun b _ => Clear.nil b) (by show X.A.units + 1 + _ < cLine; omega) (fun _ _ e => e) (fun h' u tk hk => ⟨_, _, rfl, fin h' u tk hk⟩) sz
end GL
/-! GX5: the program's exceptions as data. -/
namespace GL
open PySem PySem.Spec PyProof.Rows L2
/-- the class's name, the fields -/
abbrev Exn := Str × List (Str × V)
def xNames : List Str := ["ClubError", "Wrong", "BadItem", "NoPlayer", "Known", "NoMeeting", "Broke", "Stopped", "Over", "Refused", "Barred", "Impossible", "TooMany", "Unplayable", "Unlike", "NotLeft", "Nothing", "NoText", "NoCommand"]
def xFields : List Str := ["place", "at", "name", "one", "other", "done", "many", "members", "limit"]
def isXB (n c : Str) : Bool := decide (c = "ClubError") || decide (n = c)
/-- what the written part says of the classes -/
structure XFacts (K : PySem.W.Frag) : Prop where
  ec : ∀ n ∈ xNames, ExcC K (He.ga K n)
  xf : ∀ n ∈ xNames, XfC K (He.ga K n)
  no : ∀ n ∈ xNames, ∀ f ∈ xFields, PySem.W.findIn K (.ref (He.ga K n)) f = some none
  is : ∀ n ∈ xNames, ∀ c ∈ xNames, PySem.W.kitOne K (.ref (He.ga K n)) (.ref (He.ga K c)) = some (isXB n c)
  ve : ∀ n ∈ xNames, PySem.W.kitOne K (.ref (He.ga K n)) (.type "ValueError") = some true
def cX (K : PySem.W.Frag) : Cod Exn := ⟨fun G v d => d.1 ∈ xNames ∧ ∃ a, v = .ref a ∧ IsX G a (He.ga K d.1) d.2, fun e ⟨h, a, h1, h2⟩ => ⟨h, a, h1, h2.mono e⟩⟩
section
variable {K : PySem.W.Frag} {te ta tb : TE} {σ : L2.St} {G G' M M' M1 M2 H : Hp} {d : Exn}
theorem ev_isX {c : Str} (F : XFacts K) (hc : c ∈ xNames) (h : Ev te σ G M M1 (cX K) d) : Ev (tCB (rIsX K) (tCons te (tCons (tC (.ref (He.ga K c))) tNil))) σ G M M1 cB (isXB d.1 c) := fun G1 H1 e S Q q =>
  h G1 H1 e S _ fun v G2 H2 e2 S2 ⟨hn, a, h1, h2⟩ => ⟨a, He.ga K d.1, d.2, .ref (He.ga K c), .ref (He.ga K c), isXB d.1 c, by rw [h1], F.ec _ hn, h2.mono S2.g, .own _, F.is _ hn _ hc, q _ G2 H2 e2 S2 rfl⟩
theorem ev_isV (F : XFacts K) (h : Ev te σ G M M1 (cX K) d) : Ev (tCB (rIsX K) (tCons te (tCons (tC (.ty "ValueError")) tNil))) σ G M M1 cB true := fun G1 H1 e S Q q =>
  h G1 H1 e S _ fun v G2 H2 e2 S2 ⟨hn, a, h1, h2⟩ => ⟨a, He.ga K d.1, d.2, .ty "ValueError", .type "ValueError", true, by rw [h1], F.ec _ hn, h2.mono S2.g, .ty _, F.ve _ hn, q _ G2 H2 e2 S2 rfl⟩
def fieldP (d : Exn) (f : Str) : Option V := d.2.lookup f
theorem ev_xv {f : Str} {v : V} (F : XFacts K) (hf : f ∈ xFields) (h : Ev te σ G M M1 (cX K) d) (hl : fieldP d f = some v) : Ev (tXv K f te) σ G M M1 cV v := fun G1 H1 e S Q q =>
  h G1 H1 e S _ fun u G2 H2 e2 S2 ⟨hn, a, h1, h2⟩ => by
    rcases h2.mono S2.g with ⟨h0, _⟩ | ⟨dx, h3, h4⟩
    · have hl' : d.2.lookup f = some v := hl
      rw [h0] at hl'
      cases hl'
    · exact ⟨a, He.ga K d.1, dx, d.2, v, h1, F.xf _ hn, F.no _ hn _ hf, h3, h4, hl, q v G2 H2 e2 S2 rfl⟩
/-- n(e, ..), a new exception -/
def rNew (K : PySem.W.Frag) (n : Str) (fs : List Str) : List V → Hp → VK → Prop := fun vs H1 Q => vs.length = fs.length ∧ ∀ a dx, H1 a = none → H1 dx = none → dx ≠ a → Q (.ref a) (upd (upd H1 dx (exd dx (fs.zip vs).reverse)) a (exo a (He.ga K n) (some dx)))
/-- what an own __init__ promises: self's fields are its arguments -/
def spX (K : PySem.W.Frag) (C : Addr) (fs : List Str) : Sp := fun vs H Q _ => ∃ a xs, vs = .ref a :: xs ∧ xs.length = fs.length ∧ H a = some (exo a C none) ∧ OexC K C ∧ (∀ f ∈ fs, PySem.W.findIn K (.ref C) f = some none) ∧
  ∀ dx, H dx = none → dx ≠ a → Q .non (upd (upd H dx (exd dx (fs.zip xs).reverse)) a (exo a C (some dx)))
structure OwnX (P : Program) (w : World) (K : PySem.W.Frag) (mg : Str → Option Value) (base : Heap) (k : Nat) (n : Str) (fs : List Str) : Prop where
  ex : ∃ fI fd ps, mg n = some (.ref (He.ga K n)) ∧ OexC K (He.ga K n) ∧ PySem.W.findIn K (.ref (He.ga K n)) "__init__" = some (some (.ref fI)) ∧ PySem.W.typeIn K (.ref fI) = some (.type "function") ∧ Binds K fd ps [] ∧ FnOk P w K mg base CX0 k fI fd ps (spX K (He.ga K n) fs)
  lt : fs.length ≤ 2
  no : ∀ f ∈ fs, PySem.W.findIn K (.ref (He.ga K n)) f = some none
theorem pe_new {X : Cx} {k : Nat} {x : Str} {fs : List Str} {e : Expr} {es : List Expr} {p pos : Pos} {t : TA} (O : OwnX X.prog X.w X.K X.mg X.base k x fs) (hr : Room (k + 1) X.A) (hx : Passes CX0 X (fun _ _ _ => False)) (ha : PA X (e :: es) t) (hg : Gl X x := by rfl)
    (hdb : (x == ("__debug__" : Str)) = false := by decide) (he : starEach (e :: es) X.env = (false, eval e X.env) :: starEach es X.env := by rfl) (hpl : (backTo pos (starEach es X.env)).any (·.1) = false := by rfl) :
    PE X (.Call (.Name x p) (e :: es) [] pos) (tCB (rNew X.K x fs) t) := by
  obtain ⟨fI, fd, ps, hm, T, iC, tI, hb, F⟩ := O.ex
  refine pe_mkV T iC tI (rNew X.K x fs) (fun vs H1 Q ⟨hl, q⟩ => ⟨by have := O.lt; omega, fun a hn => ⟨a, vs, rfl, hl, upd_same, T, O.no, fun dx hd ne => ⟨rfl, ?_⟩⟩⟩) F hr hb hx hg hm ha hdb he hpl
  rw [upd_ne ne] at hd
  have z := q a dx hn hd ne
  rw [upd_comm (Ne.symm ne) , upd_upd]
  exact z
theorem rNew_end {n : Str} {fs : List Str} {vs : List V} (hn : n ∈ xNames) (hz : fs.length = vs.length) (S : Sta G M H) (Q : VK) (q : ∀ v G2 H2, Le G G2 → Sta G2 M H2 → (cX K).r G2 v (n, (fs.zip vs).reverse) → Q v H2) : rNew K n fs vs H Q := by
  refine ⟨hz.symm, fun a dx ha hd ne => ?_⟩
  have l1 := le_new (G := G) (o := exd dx (fs.zip vs).reverse) (S.freshG hd)
  have S1 := S.newG (o := exd dx (fs.zip vs).reverse) hd
  have ha1 : upd H dx (exd dx (fs.zip vs).reverse) a = none := by rw [upd_ne (Ne.symm ne)]; exact ha
  have l2 := le_new (G := upd G dx (exd dx (fs.zip vs).reverse)) (o := exo a (He.ga K n) (some dx)) (S1.freshG ha1)
  refine q _ _ _ (l1.trans l2) (S1.newG ha1) ⟨hn, a, rfl, .inr ⟨dx, upd_same, ?_⟩⟩
  rw [upd_ne ne]
  exact upd_same
theorem ev_new1 {n f : Str} {x : V} (hn : n ∈ xNames) (h : Ev te σ G M M1 cV x) : Ev (tCB (rNew K n [f]) (tCons te tNil)) σ G M M1 (cX K) (n, [(f, x)]) := fun G1 H1 e S Q q =>
  h G1 H1 e S _ fun v G2 H2 e2 S2 r => by
    cases r
    exact rNew_end hn rfl S2 Q fun v G3 H3 e3 S3 r => q v G3 H3 (e2.trans e3) S3 r
theorem ev_new2 {n f g : Str} {x y : V} (hn : n ∈ xNames) (h : Ev ta σ G M M1 cV x) (h2 : Ev tb σ G M1 M2 cV y) : Ev (tCB (rNew K n [f, g]) (tCons ta (tCons tb tNil))) σ G M M2 (cX K) (n, [(g, y), (f, x)]) := fun G1 H1 e S Q q =>
  h G1 H1 e S _ fun v G2 H2 e2 S2 r => h2 G2 H2 (e.trans e2) S2 _ fun u G3 H3 e3 S3 r3 => by
    cases r
    cases r3
    exact rNew_end hn rfl S3 Q fun v G4 H4 e4 S4 r => q v G4 H4 ((e2.trans e3).trans e4) S4 r
def tNew0 (K : PySem.W.Frag) (n : Str) : TE := fun _ H Q => ∀ a, H a = none → Q (.ref a) (upd H a (ExO (.ref (He.ga K n)) a))
theorem ev_new0 {n : Str} (hn : n ∈ xNames) : Ev (tNew0 K n) σ G M M (cX K) (n, []) := fun G1 H1 e S Q q a ha =>
  q _ (upd G1 a _) _ (le_new (S.freshG ha)) (S.newG ha) ⟨hn, a, rfl, .inl ⟨rfl, upd_same⟩⟩
end
end GL
/-! GX6: an int in a tuple of ints. -/
namespace GL
open PySem PySem.Spec PyProof.Rows L2
theorem inV_ints {x : Int} : ∀ ys : List Int, inV (V.int x) (ys.map V.int) = decide (x ∈ ys)
  | [] => rfl
  | y :: ys => by
    have ih := inV_ints (x := x) ys
    unfold inV at ih ⊢
    rw [List.map_cons, List.any_cons, ih]
    have z : eqV (V.int y) (V.int x) = decide (x = y) := by
      by_cases h : x = y
      · subst h; simp [eqV]
      · have h' : ¬ y = x := fun q => h q.symm
        simp [eqV, h, h']
    rw [z]
    by_cases h : x = y <;> simp [h]
theorem flat_ints (ys : List Int) : (ys.map V.int).all flatV = true := by
  rw [List.all_map]
  exact List.all_eq_true.mpr fun _ _ => rfl
section
variable {K : PySem.W.Frag} {te ta tb : TE} {σ : L2.St} {G G' M M' M1 M2 H : Hp}
theorem ev_inT {x : Int} {ys : List Int} {neg : Bool} (ha : Ev ta σ G M M1 cI x) (hb : Ev tb σ G M1 M2 (cTs cI) ys) : Ev (tOp (rIn K neg) ta tb) σ G M M2 cB (if neg = true then !decide (x ∈ ys) else decide (x ∈ ys)) := fun G1 H1 e S Q q =>
  ha G1 H1 e S _ fun v G2 H2 e2 S2 r => hb G2 H2 (e.trans e2) S2 _ fun u G3 H3 e3 S3 ⟨b, xs, h1, h2, h3⟩ => by
    obtain rfl := All2.map.mp h3
    cases r
    exact ⟨b, _, h1, .inr (SqT.of (S3.g.tup h2)), rfl, flat_ints ys, by rw [inV_ints]; exact q _ G3 H3 (e2.trans e3) S3 rfl⟩
theorem ev_isinT {x : Int} {ys : List Int} (ha : Ev ta σ G M M1 cI x) (hb : Ev tb σ G M1 M2 (cTs cI) ys) : Ev (tOp (rIn K false) ta tb) σ G M M2 cB (decide (x ∈ ys)) := ev_inT ha hb
theorem ev_notinT {x : Int} {ys : List Int} (ha : Ev ta σ G M M1 cI x) (hb : Ev tb σ G M1 M2 (cTs cI) ys) : Ev (tOp (rIn K true) ta tb) σ G M M2 cB (!decide (x ∈ ys)) := ev_inT ha hb
end
end GL
/-! GX7: values of any kind (k16): data that stay small. -/
namespace GL
open PySem PySem.Spec PyProof.Rows L2
theorem join_le (B : Nat) : ∀ ts : List Str, (∀ t ∈ ts, t.length ≤ B) → (Str.join ", " ts).length ≤ ts.length * (B + 2)
  | [], _ => by show 0 ≤ _; omega
  | [x], h => by
    have h1 := h x List.mem_cons_self
    show x.length ≤ _
    simp only [List.length_cons, List.length_nil]
    omega
  | x :: y :: r, h => by
    have h1 := h x List.mem_cons_self
    have h2 := join_le B (y :: r) fun t ht => h t (List.mem_cons_of_mem _ ht)
    show (x ++ ", " ++ Str.join ", " (y :: r)).length ≤ _
    rw [strLen_append, strLen_append, List.length_cons, Nat.succ_mul]
    have e : (", " : Str).length = 2 := rfl
    rw [e]
    omega
theorem shownAll_le {B : Nat} : ∀ ds : List PyData, (∀ d ∈ ds, d.shown.length ≤ B) → (∀ t ∈ PyData.shownAll ds, t.length ≤ B) ∧ (PyData.shownAll ds).length = ds.length
  | [], _ => ⟨by simp [PyData.shownAll], by simp [PyData.shownAll]⟩
  | d :: ds, h => by
    obtain ⟨h1, h2⟩ := shownAll_le ds fun x hx => h x (List.mem_cons_of_mem _ hx)
    simp only [PyData.shownAll]
    refine ⟨fun t ht => ?_, by simp [h2]⟩
    rcases List.mem_cons.mp ht with rfl | ht
    · exact h d List.mem_cons_self
    · exact h1 t ht
theorem sum_le {B : Nat} : ∀ ts : List Str, (∀ t ∈ ts, t.length ≤ B) → (ts.map (·.length)).sum ≤ ts.length * B
  | [], _ => by simp
  | t :: ts, h => by
    have h1 := h t List.mem_cons_self
    have h2 := sum_le ts fun x hx => h x (List.mem_cons_of_mem _ hx)
    rw [List.map_cons, List.sum_cons, List.length_cons, Nat.succ_mul]
    omega
theorem listText_le {B : Nat} {ds : List PyData} (h : ∀ d ∈ ds, d.shown.length ≤ B) : (listText (PyData.shownAll ds)).length ≤ 2 + ds.length * (B + 2) := by
  obtain ⟨h1, h2⟩ := shownAll_le ds h
  have z := textFrom_len_le (PyData.shownAll ds) 0 "["
  have y := sum_le _ h1
  unfold listText
  rw [strLen_append]
  have e1 : ("[" : Str).length = 1 := rfl
  have e2 : ("]" : Str).length = 1 := rfl
  rw [h2] at z y
  rw [e1] at z
  rw [e2, Nat.mul_add]
  omega
theorem tupleText_le {B : Nat} {ds : List PyData} (h : ∀ d ∈ ds, d.shown.length ≤ B) : (tupleText (PyData.shownAll ds)).length ≤ 3 + ds.length * (B + 2) := by
  obtain ⟨h1, h2⟩ := shownAll_le ds h
  have z := join_le B _ h1
  unfold tupleText
  rw [strLen_append, strLen_append]
  rw [h2] at z
  have e1 : ("(" : Str).length = 1 := rfl
  rw [e1]
  split
  · have e2 : (",)" : Str).length = 2 := rfl
    rw [e2]; omega
  · have e2 : (")" : Str).length = 1 := rfl
    rw [e2]; omega
theorem dictText_le {A B : Nat} : ∀ kvs : List (PyData × PyData), (∀ p ∈ kvs, p.1.shown.length ≤ A ∧ p.2.shown.length ≤ B) → (∀ t ∈ PyData.shownKv kvs, t.length ≤ A + B + 2) ∧ (PyData.shownKv kvs).length = kvs.length
  | [], _ => ⟨by simp [PyData.shownKv], by simp [PyData.shownKv]⟩
  | (k, v) :: r, h => by
    obtain ⟨h1, h2⟩ := dictText_le r fun x hx => h x (List.mem_cons_of_mem _ hx)
    have h3 := h (k, v) List.mem_cons_self
    simp only [PyData.shownKv]
    refine ⟨fun t ht => ?_, by simp [h2]⟩
    rcases List.mem_cons.mp ht with rfl | ht
    · rw [strLen_append, strLen_append]
      have e : (": " : Str).length = 2 := rfl
      rw [e]
      have h4 := h3.1
      have h5 := h3.2
      simp only at h4 h5
      omega
    · exact h1 t ht
theorem dictLen_le {A B : Nat} {kvs : List (PyData × PyData)} (h : ∀ p ∈ kvs, p.1.shown.length ≤ A ∧ p.2.shown.length ≤ B) : (dictText (PyData.shownKv kvs)).length ≤ 2 + kvs.length * (A + B + 4) := by
  obtain ⟨h1, h2⟩ := dictText_le kvs h
  have z := join_le _ _ h1
  unfold dictText
  rw [strLen_append, strLen_append]
  rw [h2] at z
  have e1 : ("{" : Str).length = 1 := rfl
  have e2 : ("}" : Str).length = 1 := rfl
  rw [e1, e2]
  have e3 : A + B + 2 + 2 = A + B + 4 := by omega
  rw [e3] at z
  omega

/-- flat and short -/
def Fla (v : V) : Prop := ∃ d, FlatD v d ∧ d.showable = true ∧ d.shown.length ≤ 1000
/-- v may be held by an exception, changed, told: at most n more than it was made with -/
inductive Th (n : Nat) (G M : Hp) : V → Prop
  | flat {v : V} (h : Fla v) : Th n G M v
  | tup {a : Addr} {xs : List V} (h : G a = some (.tup xs)) (f : ∀ x ∈ xs, Fla x) (l : xs.length ≤ 3) : Th n G M (.ref a)
  | lst {a : Addr} {xs : List V} (h : M a = some (.lst xs)) (f : ∀ x ∈ xs, Fla x) (l : xs.length ≤ 3 + n) : Th n G M (.ref a)
  | dic {a : Addr} {kvs : List (Key × V)} (h : M a = some (.dK kvs)) (f : ∀ p ∈ kvs, (∃ x : Str, p.1 = .inr x ∧ x.length ≤ 5 ∧ ∀ c ∈ x.cps.toList, c < 16 ^ 8) ∧ (Fla p.2 ∨ ∃ b xs, p.2 = .ref b ∧ G b = some (.lst xs) ∧ (∀ x ∈ xs, Fla x) ∧ xs.length ≤ 3)) (l : kvs.length ≤ 3 + n) : Th n G M (.ref a)
theorem flat_dd {H : Hp} {n : Nat} {v : V} {d : PyData} (f : FlatD v d) : Dd H n v d := by
  cases n with
  | zero => exact f
  | succ n => exact .inl f
theorem flat_all {H : Hp} {n : Nat} {xs : List V} {ds : List PyData} (p : Paired FlatD xs ds) : Paired (Dd H n) xs ds := Paired.mapP p fun _ _ f => flat_dd f
theorem fla_dd : ∀ {xs : List V}, (∀ x ∈ xs, Fla x) → ∃ ds, Paired FlatD xs ds ∧ PyData.showableAll ds = true ∧ (∀ d ∈ ds, d.shown.length ≤ 1000) ∧ PyData.depthAll ds = 0 ∧ ds.length = xs.length
  | [], _ => ⟨[], .nil, by simp [PyData.showableAll], by simp, by simp [PyData.depthAll], rfl⟩
  | x :: xs, h => by
    obtain ⟨ds, p, s, l, dp, e⟩ := fla_dd (fun y hy => h y (List.mem_cons_of_mem _ hy) : ∀ y ∈ xs, Fla y)
    obtain ⟨d, f, s1, l1⟩ := h x List.mem_cons_self
    refine ⟨d :: ds, .cons f p, by simp [PyData.showableAll, s1, s], fun y hy => ?_, ?_, by simp [e]⟩
    · rcases List.mem_cons.mp hy with rfl | hy
      · exact l1
      · exact l y hy
    · simp only [PyData.depthAll, dp]
      cases f <;> simp [PyData.depth]
/-- such a value is data -/
theorem th_dd {n : Nat} {G M : Hp} (hn : n ≤ 10) {v : V} (t : Th n G M v) : ∃ d, (∀ G' H, Le G G' → Sta G' M H → Dd H 2 v d) ∧ d.showable = true ∧ d.shown.length ≤ 200000 ∧ d.depth ≤ 2 := by
  cases t with
  | flat h =>
    obtain ⟨d, f, s, l⟩ := h
    exact ⟨d, fun _ _ _ _ => .inl f, s, by omega, by cases f <;> simp [PyData.depth]⟩
  | @tup a xs h f l =>
    obtain ⟨ds, p, s, b, dp, e⟩ := fla_dd f
    refine ⟨.tuple ds, fun _ _ e' S => .inr (.inr (.inl ⟨a, xs, ds, rfl, (e'.trans S.g).tup h, rfl, flat_all p⟩)), by simpa [PyData.showable] using s, ?_, by simp [PyData.depth, dp]⟩
    have z := tupleText_le b
    simp only [PyData.shown]
    have y : ds.length ≤ 3 := by omega
    have w := Nat.mul_le_mul_right 1002 y
    omega
  | @lst a xs h f l =>
    obtain ⟨ds, p, s, b, dp, e⟩ := fla_dd f
    refine ⟨.list ds, fun _ _ e' S => .inr (.inl ⟨a, xs, ds, rfl, S.m _ _ h, rfl, flat_all p⟩), by simpa [PyData.showable] using s, ?_, by simp [PyData.depth, dp]⟩
    have z := listText_le b
    simp only [PyData.shown]
    have y : ds.length ≤ 13 := by omega
    have w := Nat.mul_le_mul_right 1002 y
    omega
  | @dic a kvs h f l =>
    have key : ∃ ds : List (PyData × PyData), Paired (fun (p : Key × V) (q : PyData × PyData) => q.1 = keyD p.1 ∧ ∀ G' H, Le G G' → Sta G' M H → Dd H 1 p.2 q.2) kvs ds ∧ PyData.showableKv ds = true ∧ (∀ p ∈ ds, p.1.shown.length ≤ 60 ∧ p.2.shown.length ≤ 5000) ∧ PyData.depthKv ds ≤ 1 ∧ ds.length = kvs.length := by
      clear h l
      induction kvs with
      | nil => exact ⟨[], .nil, by simp [PyData.showableKv], by simp, by simp [PyData.depthKv], rfl⟩
      | cons p kvs ih =>
        obtain ⟨ds, p1, s1, l1, d1, e1⟩ := ih fun q hq => f q (List.mem_cons_of_mem _ hq)
        obtain ⟨⟨x, ex, lx, cx⟩, hv⟩ := f p List.mem_cons_self
        have kl : (PyData.str x).shown.length ≤ 60 := by
          simp only [PyData.shown]
          have := StrLaws.reprText_len x cx
          omega
        have fin : ∀ d : PyData, (∀ G' H, Le G G' → Sta G' M H → Dd H 1 p.2 d) → d.showable = true → d.shown.length ≤ 5000 → d.depth ≤ 1 → ∃ ds : List (PyData × PyData), Paired (fun (p : Key × V) (q : PyData × PyData) => q.1 = keyD p.1 ∧ ∀ G' H, Le G G' → Sta G' M H → Dd H 1 p.2 q.2) (p :: kvs) ds ∧ PyData.showableKv ds = true ∧ (∀ p ∈ ds, p.1.shown.length ≤ 60 ∧ p.2.shown.length ≤ 5000) ∧ PyData.depthKv ds ≤ 1 ∧ ds.length = (p :: kvs).length := by
          intro d hd sd ld dd
          refine ⟨(.str x, d) :: ds, .cons ⟨by show PyData.str x = keyD p.1; rw [ex]; rfl, hd⟩ p1, by simp [PyData.showableKv, s1, sd, PyData.showable], fun q hq => ?_, ?_, by simp [e1]⟩
          · rcases List.mem_cons.mp hq with rfl | hq
            · exact ⟨kl, ld⟩
            · exact l1 q hq
          · simp only [PyData.depthKv, PyData.depth]
            omega
        rcases hv with ⟨d, fd, sd, ld⟩ | ⟨b, xs, ev, hb, fx, lx2⟩
        · exact fin d (fun _ _ _ _ => .inl fd) sd (by omega) (by generalize p.2 = z at fd; cases fd <;> simp [PyData.depth])
        · obtain ⟨es, p2, s2, l2, d2, e2⟩ := fla_dd fx
          have z := listText_le l2
          have y : es.length ≤ 3 := by omega
          have w := Nat.mul_le_mul_right 1002 y
          exact fin (.list es) (fun _ _ e' S => .inr (.inl ⟨b, xs, es, ev, (e'.trans S.g).lst hb, rfl, p2⟩)) (by simpa [PyData.showable] using s2) (by simp only [PyData.shown]; omega) (by simp [PyData.depth, d2])
    obtain ⟨ds, p, s, b, dp, e⟩ := key
    refine ⟨.dict ds, fun _ _ e' S => .inr (.inr (.inr ⟨a, kvs, ds, rfl, S.m _ _ h, rfl, Paired.mapP p fun _ _ z => ⟨z.1, z.2 _ _ e' S⟩⟩)), by simpa [PyData.showable] using s, ?_, by simp only [PyData.depth]; omega⟩
    have z := dictLen_le b
    simp only [PyData.shown]
    have y : ds.length ≤ 13 := by omega
    have w := Nat.mul_le_mul_right 5064 y
    omega
theorem ths_dd {n : Nat} {G M : Hp} (hn : n ≤ 10) : ∀ {xs : List V}, (∀ x ∈ xs, Th n G M x) → ∃ ds, (∀ G' H, Le G G' → Sta G' M H → Paired (Dd H 2) xs ds) ∧ PyData.showableAll ds = true ∧ (∀ d ∈ ds, d.shown.length ≤ 200000) ∧ PyData.depthAll ds ≤ 2 ∧ ds.length = xs.length
  | [], _ => ⟨[], fun _ _ _ _ => .nil, by simp [PyData.showableAll], by simp, by simp [PyData.depthAll], rfl⟩
  | x :: xs, h => by
    obtain ⟨ds, p, s, l, dp, e⟩ := ths_dd hn (fun y hy => h y (List.mem_cons_of_mem _ hy) : ∀ y ∈ xs, Th n G M y)
    obtain ⟨d, f, s1, l1, d1⟩ := th_dd hn (h x List.mem_cons_self)
    refine ⟨d :: ds, fun G' H e' S => .cons (f G' H e' S) (p G' H e' S), by simp [PyData.showableAll, s1, s], fun y hy => ?_, ?_, by simp [e]⟩
    · rcases List.mem_cons.mp hy with rfl | hy
      · exact l1
      · exact l y hy
    · simp only [PyData.depthAll]
      omega
theorem Th.mono {n : Nat} {G G' M : Hp} (e : Le G G') {v : V} (t : Th n G M v) : Th n G' M v := by
  cases t with
  | flat h => exact .flat h
  | tup h f l => exact .tup (e.tup h) f l
  | lst h f l => exact .lst h f l
  | dic h f l => exact .dic h (fun p hp => ⟨(f p hp).1, (f p hp).2.imp id fun ⟨b, xs, h1, h2, h3⟩ => ⟨b, xs, h1, e.lst h2, h3⟩⟩) l
theorem all2V {G : Hp} : ∀ {xs ys : List V}, All2 cV G xs ys → xs = ys
  | [], [], _ => rfl
  | _ :: _, _ :: _, h => by
    have h1 := h.1
    have h2 := all2V h.2
    cases h1
    rw [h2]
    rfl
  | [], _ :: _, h => h.elim
  | _ :: _, [], h => h.elim
section
variable {K : PySem.W.Frag} {te ta tb : TE} {σ : L2.St} {G G' M M' M1 M2 H : Hp}
theorem th_flat {n : Nat} {v : V} (t : Th n G M v) : flatB v = true ∨ ∃ a, v = .ref a := by
  cases t with
  | flat h => obtain ⟨d, f, _⟩ := h; cases f <;> exact .inl rfl
  | tup => exact .inr ⟨_, rfl⟩
  | lst => exact .inr ⟨_, rfl⟩
  | dic => exact .inr ⟨_, rfl⟩
theorem ev_eqVL {n : Nat} {xs : List V} (ha : Ev ta σ G M M (cL cV) xs) (hb : Ev tb σ G M M (cL cV) xs) (hx : ∀ x ∈ xs, Th n G M x) : Ev (tOp (rEqV K) ta tb) σ G M M cB true := fun G1 H1 e S Q q =>
  ha G1 H1 e S _ fun v G2 H2 e2 S2 ⟨a, ys, h1, h2, h3⟩ => hb G2 H2 (e.trans e2) S2 _ fun u G3 H3 e3 S3 ⟨b, zs, k1, k2, k3⟩ => by
    have y1 := all2V h3
    have z1 := all2V k3
    subst y1
    subst z1
    refine ⟨1, by decide, .inl ⟨a, b, _, _, h1, k1, SqL.of ((e3.trans S3.g).lst h2), SqL.of (S3.g.lst k2), ?_⟩, q _ G3 H3 (e2.trans e3) S3 rfl⟩
    clear h2 h3 k2 k3
    revert hx
    generalize zs = l
    induction l with
    | nil => intro _; exact .nil
    | cons x l ih =>
      intro hx
      refine .cons ?_ (ih fun y hy => hx y (List.mem_cons_of_mem _ hy))
      rcases th_flat (hx x List.mem_cons_self) with f | ⟨c, rfl⟩
      · exact .inl ⟨rfl, f⟩
      · exact .inr (.inl ⟨c, rfl, rfl⟩)
theorem ev_reprL {xs : List V} {ds : List PyData} (hd : ∀ G' H, Le G G' → Sta G' M H → Paired (Dd H 2) xs ds) (sh : PyData.showableAll ds = true) (sz : (listText (PyData.shownAll ds)).length ≤ sizeLine) (dp : PyData.depthAll ds ≤ 20) (ha : Ev ta σ G M M (cL cV) xs) :
    Ev (tCB rReprL (tCons ta tNil)) σ G M M cS (listText (PyData.shownAll ds)) := fun G1 H1 e S Q q =>
  ha G1 H1 e S _ fun v G2 H2 e2 S2 ⟨a, ys, h1, h2, h3⟩ => by
    have y1 := all2V h3
    subst y1
    exact ⟨a, ys, 2, ds, by rw [h1], by decide, S2.g.lst h2, hd _ _ (e.trans e2) S2, sh, sz, dp, q _ G2 H2 e2 S2 rfl⟩
end
end GL
/-! GX8: values of any kind are changed. -/
namespace GL
open PySem PySem.Spec PyProof.Rows L2
section
variable {K : PySem.W.Frag} {te ta tb : TE} {σ : L2.St} {G G' M M' M1 M2 H : Hp} {n : Nat} {v : V} {D : Ends}
theorem th_kind (t : Th n G M v) :
    (∃ a xs, v = .ref a ∧ M a = some (.lst xs) ∧ (∀ x ∈ xs, Fla x) ∧ xs.length ≤ 3 + n) ∨
    (∃ a kvs, v = .ref a ∧ M a = some (.dK kvs) ∧ kvs.length ≤ 3 + n) ∨
    ∃ ty : String, (∀ G' H, Le G G' → Sta G' M H → TyX K H v (.type ty)) ∧ kitB ty "list" = some false ∧ kitB ty "dict" = some false := by
  cases t with
  | flat h =>
    obtain ⟨d, f, _⟩ := h
    refine .inr (.inr ?_)
    cases f with
    | non => exact ⟨"NoneType", fun _ _ _ _ => .base .non, by decide +kernel, by decide +kernel⟩
    | bl b => exact ⟨"bool", fun _ _ _ _ => .base (.bl b), by decide +kernel, by decide +kernel⟩
    | int i => exact ⟨"int", fun _ _ _ _ => .base (.int i), by decide +kernel, by decide +kernel⟩
    | str x => exact ⟨"str", fun _ _ _ _ => .base (.str x), by decide +kernel, by decide +kernel⟩
  | tup h f l => exact .inr (.inr ⟨"tuple", fun _ _ e S => .base (.tup ((e.trans S.g).tup h)), by decide +kernel, by decide +kernel⟩)
  | lst h f l => exact .inl ⟨_, _, rfl, h, f, l⟩
  | dic h f l => exact .inr (.inl ⟨_, _, rfl, h, l⟩)
theorem ev_isi {ty c : String} {b : Bool} (hv : Ev te σ G M M cV v) (ht : ∀ G' H, Le G G' → Sta G' M H → TyX K H v (.type ty)) (hk : kitB ty c = some b) : Ev (tCB (rIsi K) (tCons te (tCons (tC (.ty c)) tNil))) σ G M M cB b := fun G1 H1 e S Q q =>
  hv G1 H1 e S _ fun u G2 H2 e2 S2 r => by
    cases r
    exact ⟨v, .ty c, .type ty, .type c, b, rfl, .ty c, ht _ _ (e.trans e2) S2, kit_ty hk, q _ G2 H2 e2 S2 rfl⟩
theorem Th.up {m : Nat} (h : n ≤ m) (t : Th n G M v) : Th m G M v := by
  cases t with
  | flat h => exact .flat h
  | tup h f l => exact .tup h f l
  | lst h f l => exact .lst h f (by omega)
  | dic h f l => exact .dic h f (by omega)
theorem th_app {a : Addr} {xs : List V} {w : V} (ha : M a = some (.lst xs)) (hf : ∀ x ∈ xs, Fla x) (hl : xs.length ≤ 3 + n) (hw : Fla w) (t : Th n G M v) : Th (n + 1) G (upd M a (.lst (xs ++ [w]))) v := by
  cases t with
  | flat h => exact .flat h
  | tup h f l => exact .tup h f l
  | @lst b ys h f l =>
    by_cases e : b = a
    · subst e
      refine .lst upd_same (fun x hx => ?_) (by simp; omega)
      rcases List.mem_append.mp hx with hx | hx
      · exact hf x hx
      · rw [List.mem_singleton.mp hx]; exact hw
    · exact .lst ((upd_ne e).trans h) f (by omega)
  | @dic b kvs h f l =>
    have e : b ≠ a := fun z => by rw [z, ha] at h; cases h
    exact .dic ((upd_ne e).trans h) f (by omega)
theorem mem_putK {kvs : List (Key × V)} {k : Key} {w : V} {p : Key × V} (h : p ∈ putK kvs k w) : p = (k, w) ∨ p ∈ kvs := by
  unfold putK at h
  split at h
  · obtain ⟨q, hq, e⟩ := List.mem_map.mp h
    by_cases z : q.1 = k
    · rw [if_pos z] at e
      rw [z] at e
      exact .inl e.symm
    · rw [if_neg z] at e
      exact .inr (e ▸ hq)
  · rcases List.mem_append.mp h with h | h
    · exact .inr h
    · exact .inl (List.mem_singleton.mp h)
theorem th_put {a : Addr} {kvs : List (Key × V)} {w : V} {x : Str} (ha : M a = some (.dK kvs)) (hl : kvs.length ≤ 3 + n) (hx : x.length ≤ 5) (hc : ∀ c ∈ x.cps.toList, c < 16 ^ 8) (hw : Fla w) (t : Th n G M v) : Th (n + 1) G (upd M a (.dK (putK kvs (.inr x) w))) v := by
  cases t with
  | flat h => exact .flat h
  | tup h f l => exact .tup h f l
  | @lst b ys h f l =>
    have e : b ≠ a := fun z => by rw [z, ha] at h; cases h
    exact .lst ((upd_ne e).trans h) f (by omega)
  | @dic b ys h f l =>
    by_cases e : b = a
    · subst e
      rw [ha] at h
      cases h
      refine .dic upd_same (fun p hp => ?_) (by have := length_putK kvs (.inr x) w; omega)
      rcases mem_putK hp with rfl | hp
      · exact ⟨⟨x, rfl, hx, hc⟩, .inl hw⟩
      · exact f p hp
    · exact .dic ((upd_ne e).trans h) f (by omega)
/-- the body of the loop that changes what was handed over -/
def tBump (K : PySem.W.Frag) : TS :=
  tSeq (tIfS (tB (tCB (rIsi K) (tCons (tVar 4) (tCons (tC (.ty "list")) tNil)))) (tDrop (tBM K "list" rAppend (tVar 4) (tCons (tVar 0) tNil))) tNext)
    (tIfS (tB (tCB (rIsi K) (tCons (tVar 4) (tCons (tC (.ty "dict")) tNil)))) (sDPut (tVar 4) (tC (.str "way")) (tVar 0)) tNext)
theorem ev_wV {i : Nat} (hs : σ[i]? = some (some v)) : Ev (tVar i) σ G M M cV v := ev_var hs rfl
theorem s_bump {way : Int} (t : Th n G M v) (hn : n ≤ 5) (hw : Fla (.int way)) (S : Sta G M H) (h4 : σ[4]? = some (some v)) (h0 : σ[0]? = some (some (.int way)))
    (k : ∀ G' M' H', Le G G' → Sta G' M' H' → (∀ u, Th n G M u → Th (n + 1) G' M' u) → (∀ b o, M b = some o → V.ref b ≠ v → M' b = some o) → D.nx σ H') : tBump K D σ H := by
  rcases th_kind (K := K) t with ⟨a, xs, rfl, ha, hf, hl⟩ | ⟨a, kvs, rfl, ha, hl⟩ | ⟨ty, hty, k1, k2⟩
  · refine s_ifL (b := true) (et_B (ev_isi (ev_wV h4) (fun G' H e S => .base (.lst (S.m _ _ ha))) (by decide +kernel))) S (fun _ G2 H2 e2 S2 => ?_) (fun z => nomatch z)
    refine s_append (c := cI) (d := way) (ev_ref h4) (ev_var h0 rfl) S2 ha ha (by rw [sizeLine_eq]; omega) fun w G3 H3 e3 S3 r => ?_
    cases r
    refine s_if (b := false) (et_B (ev_isi (ev_wV h4) (fun G' H e S => .base (.lst (S.m _ _ upd_same))) (by decide +kernel))) S3 (fun z => nomatch z) fun _ G4 H4 e4 S4 => ?_
    refine k _ _ _ ((e2.trans e3).trans e4) S4 (fun u hu => (th_app ha hf hl hw hu).mono ((e2.trans e3).trans e4)) fun b o hb ne => ?_
    rw [upd_ne (fun z => ne (by rw [z]))]
    exact hb
  · refine s_ifL (b := false) (et_B (ev_isi (ev_wV h4) (fun G' H e S => .base (.dK (S.m _ _ ha))) (by decide +kernel))) S (fun z => nomatch z) fun _ G2 H2 e2 S2 => ?_
    refine s_if (b := true) (et_B (ev_isi (ev_wV h4) (fun G' H e S => .base (.dK (S.m _ _ ha))) (by decide +kernel))) S2 (fun _ G3 H3 e3 S3 => ?_) (fun z => nomatch z)
    have e1 : Ev (tVar 0) σ G3 M M cI way := ev_var h0 rfl
    have e4 : Ev (tVar 4) σ G3 M M cV (.ref a) := ev_wV h4
    refine e1 G3 H3 (Le.refl _) S3 _ fun w G4 H4 f4 S4 r => ?_
    cases r
    refine e4 G4 H4 f4 S4 _ fun u G5 H5 f5 S5 r5 => ?_
    cases r5
    refine ⟨a, _, rfl, .inl ⟨kvs, .inr "way", S5.m _ _ ha, rfl, by rw [sizeLine_eq]; omega, rfl⟩, ?_⟩
    have le5 : Le G G5 := ((e2.trans e3).trans f4).trans f5
    refine k G5 _ _ le5 (S5.put ha) (fun u hu => (th_put ha hl (by decide) (by decide) hw hu).mono le5) fun b o hb ne => ?_
    rw [upd_ne (fun z => ne (by rw [z]))]
    exact hb
  · refine s_ifL (b := false) (et_B (ev_isi (ev_wV h4) hty k1)) S (fun z => nomatch z) fun _ G2 H2 e2 S2 => ?_
    refine s_if (b := false) (et_B (ev_isi (ev_wV h4) (fun G' H e S => hty G' H (e2.trans e) S) k2)) S2 (fun z => nomatch z) fun _ G3 H3 e3 S3 => ?_
    exact k _ _ _ (e2.trans e3) S3 (fun u hu => (hu.mono (e2.trans e3)).up (by omega)) fun b o hb _ => hb
end
end GL
/-! GX9: values of any kind are made. -/
namespace GL
open PySem PySem.Spec PyProof.Rows L2
abbrev Sub (M M' : Hp) : Prop := ∀ b o, M b = some o → M' b = some o
theorem Th.sub {n : Nat} {G M M' : Hp} {v : V} (h : ∀ b o, v = .ref b → M b = some o → M' b = some o) (t : Th n G M v) : Th n G M' v := by
  cases t with
  | flat z => exact .flat z
  | tup z f l => exact .tup z f l
  | lst e f l => exact .lst (h _ _ rfl e) f l
  | dic e f l => exact .dic (h _ _ rfl e) f l
/-- v may be handed over and is none of the things that B knows -/
def PV (B G M : Hp) (v : V) : Prop := Th 0 G M v ∧ ∀ b, v = .ref b → B b = none
theorem PV.mono {B G G' M M' : Hp} {v : V} (e : Le G G') (s : Sub M M') (h : PV B G M v) : PV B G' M' v := ⟨(h.1.mono e).sub fun b o _ => s b o, h.2⟩
def EvP (B : Hp) (te : TE) (σ : L2.St) : Prop := ∀ G M H, Sta G M H → Sub B M → ∀ Q, (∀ v G2 M2 H2, Le G G2 → Sta G2 M2 H2 → Sub M M2 → PV B G2 M2 v → Q v H2) → te σ H Q
def EvPs (B : Hp) (ta : TA) (σ : L2.St) (n : Nat) : Prop := ∀ G M H, Sta G M H → Sub B M → ∀ Q, (∀ vs G2 M2 H2, Le G G2 → Sta G2 M2 H2 → Sub M M2 → (∀ v ∈ vs, PV B G2 M2 v) → vs.length = n → Q vs H2) → ta σ H Q
theorem Sub.trans {A B C : Hp} (h : Sub A B) (k : Sub B C) : Sub A C := fun b o e => k b o (h b o e)
theorem sub_new {M : Hp} {p : Addr} {o : HO} (h : M p = none) : Sub M (upd M p o) := fun b u e => by rw [upd_ne (ne_of_none e h)]; exact e
section
variable {K : PySem.W.Frag} {te ta tb : TE} {σ : L2.St} {B G G' M M' M1 M2 H : Hp} {v : V} {n : Nat}
theorem eps_nil : EvPs B tNil σ 0 := fun G M H S _ Q q => q [] G M H (Le.refl _) S (fun _ _ e => e) (by simp) rfl
theorem eps_cons {tr : TA} (h : EvP B te σ) (k : EvPs B tr σ n) : EvPs B (tCons te tr) σ (n + 1) := fun G M H S b Q q =>
  h G M H S b _ fun v G2 M2 H2 e2 S2 s2 p2 => k G2 M2 H2 S2 (b.trans s2) _ fun vs G3 M3 H3 e3 S3 s3 p3 l3 => q (v :: vs) G3 M3 H3 (e2.trans e3) S3 (s2.trans s3)
    (fun u hu => by
      rcases List.mem_cons.mp hu with rfl | hu
      · exact p2.mono e3 s3
      · exact p3 u hu) (by simp [l3])
theorem fla_ref {b : Addr} (h : Fla (.ref b)) : False := by
  obtain ⟨d, f, _⟩ := h
  cases f
theorem pv_fla (h : Fla v) : PV B G M v := ⟨.flat h, fun b e => (fla_ref (e ▸ h)).elim⟩
theorem ep_c (h : Fla v) : EvP B (tC v) σ := fun G M H S _ Q q => q v G M H (Le.refl _) S (fun _ _ e => e) (pv_fla h)
theorem ep_int {i : Int} (h : ∀ G M, Ev te σ G M M cI i) (hf : Fla (.int i)) : EvP B te σ := fun G M H S _ Q q => h G M G H (Le.refl _) S _ fun v G2 H2 e2 S2 r => by
  cases r
  exact q _ G2 M H2 e2 S2 (fun _ _ e => e) (pv_fla hf)
theorem ep_lst {vs : List V} (ht : ∀ H Q, (∀ p, H p = none → Q (V.ref p) (upd H p (.lst vs))) → te σ H Q) (hv : ∀ v ∈ vs, Fla v) (hl : vs.length ≤ 3) : EvP B te σ := fun G M H S b Q q => ht H Q fun p hp =>
  q _ G _ _ (Le.refl _) (S.newM hp) (sub_new (S.freshM hp)) ⟨.lst upd_same hv hl, fun c e => by
    cases e
    cases z : B p with
    | none => rfl
    | some o => have := b _ _ z; rw [S.freshM hp] at this; cases this⟩
theorem ep_tup {vs : List V} (ht : ∀ H Q, (∀ p, H p = none → Q (V.ref p) (upd H p (.tup vs))) → te σ H Q) (hv : ∀ v ∈ vs, Fla v) (hl : vs.length ≤ 3) : EvP B te σ := fun G M H S b Q q => ht H Q fun p hp =>
  q _ _ M _ (le_new (S.freshG hp)) (S.newG hp) (fun _ _ e => e) ⟨.tup upd_same hv hl, fun c e => by
    cases e
    cases z : B p with
    | none => rfl
    | some o => have := b _ _ z; rw [S.freshM hp] at this; cases this⟩
theorem ep_dic0 : EvP B tDNewK σ := fun G M H S b Q q p hp =>
  q _ G _ _ (Le.refl _) (S.newM hp) (sub_new (S.freshM hp)) ⟨.dic upd_same (by simp) (by simp), fun c e => by
    cases e
    cases z : B p with
    | none => rfl
    | some o => have := b _ _ z; rw [S.freshM hp] at this; cases this⟩
theorem ep_dic1 {k : Str} {w : V} (hk : k.length ≤ 5) (hc : ∀ c ∈ k.cps.toList, c < 16 ^ 8) (hw : Fla w) : EvP B (tDisp [(tC (.str k), tLst (tCons (tC w) tNil))]) σ := fun G M H S b Q q p hp => by
  refine ⟨by show 1 ≤ sizeLine; rw [sizeLine_eq]; decide, fun r hr => ?_⟩
  have S1 := S.newM (o := .dK []) hp
  have S2 := S1.newG (o := .lst [w]) hr
  have hpr : p ≠ r := fun z => by rw [← z, upd_same] at hr; cases hr
  refine ⟨by rw [upd_ne hpr]; exact upd_same, [(.inr k, .ref r)], rfl, Nat.le_of_ble_eq_true rfl, ?_⟩
  have S3 := S2.put (o := .dK [(.inr k, .ref r)]) upd_same
  rw [upd_upd] at S3
  have e0 : mergeK [] [((Sum.inr k : Key), V.ref r)] = [((Sum.inr k : Key), V.ref r)] := rfl
  rw [e0]
  refine q _ _ _ _ (le_new (S1.freshG hr)) S3 (sub_new (S.freshM hp)) ⟨.dic upd_same (fun z hz => ?_) (by simp), fun c e => ?_⟩
  · rw [List.mem_singleton.mp hz]
    exact ⟨⟨k, rfl, hk, hc⟩, .inr ⟨r, [w], rfl, upd_same, fun x hx => by rw [List.mem_singleton.mp hx]; exact hw, by simp⟩⟩
  · cases e
    cases z : B p with
    | none => rfl
    | some o => have := b _ _ z; rw [S.freshM hp] at this; cases this
end
end GL
namespace GL
open PySem PySem.Spec L2
open PySem.W (T3 T4)
def top (i : Nat) : Stmt := PySem.Challenge.pw_eitherpays_k16_errors_apart.main.body.getD i (.Pass ⟨0, 0, 0, 0⟩)
structure Tx (K : PySem.W.Frag) (mg : Str → Option Value) : Prop where
  g_l_step : mg "_law_step" = some (.ref (He.ga K "_law_step"))
  f_l_step : ∃ fd, FunD K "_law_step" "_law_step" (defArgs (top 22)) (defBody (top 22)) (defScope (top 22)) [] [] (He.ga K "_law_step") fd
  g_l_take : mg "_law_take" = some (.ref (He.ga K "_law_take"))
  f_l_take : ∃ fd, FunD K "_law_take" "_law_take" (defArgs (top 23)) (defBody (top 23)) (defScope (top 23)) [] [] (He.ga K "_law_take") fd
  g_l_draw : mg "_law_draw" = some (.ref (He.ga K "_law_draw"))
  f_l_draw : ∃ fd, FunD K "_law_draw" "_law_draw" (defArgs (top 24)) (defBody (top 24)) (defScope (top 24)) [] [] (He.ga K "_law_draw") fd
  g_l_names : mg "_law_names" = some (.ref (He.ga K "_law_names"))
  f_l_names : ∃ fd, FunD K "_law_names" "_law_names" (defArgs (top 26)) (defBody (top 26)) (defScope (top 26)) [] [] (He.ga K "_law_names") fd
  g_l_made : mg "_law_made" = some (.ref (He.ga K "_law_made"))
  f_l_made : ∃ fd, FunD K "_law_made" "_law_made" (defArgs (top 28)) (defBody (top 28)) (defScope (top 28)) [] [] (He.ga K "_law_made") fd
  g_l_flags : mg "_law_flags" = some (.ref (He.ga K "_law_flags"))
  f_l_flags : ∃ fd, FunD K "_law_flags" "_law_flags" (defArgs (top 29)) (defBody (top 29)) (defScope (top 29)) [] [] (He.ga K "_law_flags") fd
  g_l_fields : mg "_law_fields" = some (.ref (He.ga K "_law_fields"))
  f_l_fields : ∃ fd, FunD K "_law_fields" "_law_fields" (defArgs (top 30)) (defBody (top 30)) (defScope (top 30)) [] [] (He.ga K "_law_fields") fd
  g_l_alike : mg "_law_alike" = some (.ref (He.ga K "_law_alike"))
  f_l_alike : ∃ fd, FunD K "_law_alike" "_law_alike" (defArgs (top 25)) (defBody (top 25)) (defScope (top 25)) [] [] (He.ga K "_law_alike") fd
  g_l_right : mg "_law_right" = some (.ref (He.ga K "_law_right"))
  f_l_right : ∃ fd, FunD K "_law_right" "_law_right" (defArgs (top 31)) (defBody (top 31)) (defScope (top 31)) [] [] (He.ga K "_law_right") fd
  g_l_value : mg "_law_value" = some (.ref (He.ga K "_law_value"))
  f_l_value : ∃ fd, FunD K "_law_value" "_law_value" (defArgs (top 27)) (defBody (top 27)) (defScope (top 27)) [] [] (He.ga K "_law_value") fd
  g_l_hand : mg "_law_hand" = some (.ref (He.ga K "_law_hand"))
  f_l_hand : ∃ fd, FunD K "_law_hand" "_law_hand" (defArgs (top 21)) (defBody (top 21)) (defScope (top 21)) [] [] (He.ga K "_law_hand") fd
  g_law : mg "law" = some (.ref (He.ga K "law"))
  f_law : ∃ fd, FunD K "law" "law" (defArgs (top 32)) (defBody (top 32)) (defScope (top 32)) [] [] (He.ga K "law") fd
  g_BadItem : mg "BadItem" = some (.ref (He.ga K "BadItem"))
  g_Barred : mg "Barred" = some (.ref (He.ga K "Barred"))
  g_Broke : mg "Broke" = some (.ref (He.ga K "Broke"))
  g_ClubError : mg "ClubError" = some (.ref (He.ga K "ClubError"))
  g_Impossible : mg "Impossible" = some (.ref (He.ga K "Impossible"))
  g_Known : mg "Known" = some (.ref (He.ga K "Known"))
  g_NoCommand : mg "NoCommand" = some (.ref (He.ga K "NoCommand"))
  g_NoMeeting : mg "NoMeeting" = some (.ref (He.ga K "NoMeeting"))
  g_NoPlayer : mg "NoPlayer" = some (.ref (He.ga K "NoPlayer"))
  g_NoText : mg "NoText" = some (.ref (He.ga K "NoText"))
  g_NotLeft : mg "NotLeft" = some (.ref (He.ga K "NotLeft"))
  g_Nothing : mg "Nothing" = some (.ref (He.ga K "Nothing"))
  g_Over : mg "Over" = some (.ref (He.ga K "Over"))
  g_Refused : mg "Refused" = some (.ref (He.ga K "Refused"))
  g_Stopped : mg "Stopped" = some (.ref (He.ga K "Stopped"))
  g_TooMany : mg "TooMany" = some (.ref (He.ga K "TooMany"))
  g_Unlike : mg "Unlike" = some (.ref (He.ga K "Unlike"))
  g_Unplayable : mg "Unplayable" = some (.ref (He.ga K "Unplayable"))
  g_Wrong : mg "Wrong" = some (.ref (He.ga K "Wrong"))
  xi_ClubError : PySem.W.excIn K (He.ga K "ClubError") [.type "ValueError", .type "Exception", .type "BaseException", .type "object"] "ValueError.__new__" = true
  k_ClubError : PySem.W.keepIn K (.ref (He.ga K "ClubError")) = true
  xi_NoCommand : PySem.W.excIn K (He.ga K "NoCommand") [.type "ValueError", .type "Exception", .type "BaseException", .type "object"] "ValueError.__new__" = true
  k_NoCommand : PySem.W.keepIn K (.ref (He.ga K "NoCommand")) = true
  xi_NoText : PySem.W.excIn K (He.ga K "NoText") [.type "ValueError", .type "Exception", .type "BaseException", .type "object"] "ValueError.__new__" = true
  k_NoText : PySem.W.keepIn K (.ref (He.ga K "NoText")) = true
  xi_NotLeft : PySem.W.excIn K (He.ga K "NotLeft") [.type "ValueError", .type "Exception", .type "BaseException", .type "object"] "ValueError.__new__" = true
  k_NotLeft : PySem.W.keepIn K (.ref (He.ga K "NotLeft")) = true
  xi_Nothing : PySem.W.excIn K (He.ga K "Nothing") [.type "ValueError", .type "Exception", .type "BaseException", .type "object"] "ValueError.__new__" = true
  k_Nothing : PySem.W.keepIn K (.ref (He.ga K "Nothing")) = true
  xi_Unlike : PySem.W.excIn K (He.ga K "Unlike") [.type "ValueError", .type "Exception", .type "BaseException", .type "object"] "ValueError.__new__" = true
  k_Unlike : PySem.W.keepIn K (.ref (He.ga K "Unlike")) = true
  xi_Unplayable : PySem.W.excIn K (He.ga K "Unplayable") [.type "ValueError", .type "Exception", .type "BaseException", .type "object"] "ValueError.__new__" = true
  k_Unplayable : PySem.W.keepIn K (.ref (He.ga K "Unplayable")) = true
  xk : XFacts K
  b_ValueError : mg "ValueError" = none
  b_abs : mg "abs" = none
  b_dict : mg "dict" = none
  b_int : mg "int" = none
  b_isinstance : mg "isinstance" = none
  b_len : mg "len" = none
  b_list : mg "list" = none
  b_range : mg "range" = none
  b_repr : mg "repr" = none
/-! ### _law_step -/
abbrev s_l_step : Stmt := top 22
noncomputable def m_l_step (s : (List Int)) (hand : Hand) : Option (Int × Hand) :=
  (Option.bind (some { hand with x := ((hand.x * 48271) % 2147483647) }) fun hand1 =>
  (Option.bind (some { hand1 with y := ((hand1.y * 40692) % 2147483399) }) fun hand2 =>
  some ((hand2.x + hand2.y), hand2)))
def sp_l_step (K : PySem.W.Frag) : Sp := fun vs H Q _ => ∃ (G M : Hp) (p a : Addr) (s : List Int) (hand : Hand) (r : Int) (h' : Hand), vs = [V.ref p] ∧ Sta G (upd M p (handO a hand)) H ∧ (cL cI).r G (V.ref a) s ∧ m_l_step s hand = some (r, h') ∧ Ret Q G (upd M p (handO a h')) cI r
theorem sc_l_step : FnScope ["_law_hand_here"] ["_law_hand_here"] (defScope s_l_step) := ⟨rfl, rfl, rfl, by decide +kernel, rfl, by decide +kernel, by decide +kernel⟩
def t_l_step (K : PySem.W.Frag) : TS :=
  (tSeq (tAsg (tOp (rI (fun _ j => j ≠ 0) fun i j => .int (i.fmod j)) (tOp (rI CMul fun i j => .int (i * j)) (tOp (rIxL K) (tVar 0) (tC (.int 4))) (tC (.int 48271))) (tC (.int 2147483647))) (gSub (tVar 0) (tC (.int 4)) rSetL))
  (tSeq (tAsg (tOp (rI (fun _ j => j ≠ 0) fun i j => .int (i.fmod j)) (tOp (rI CMul fun i j => .int (i * j)) (tOp (rIxL K) (tVar 0) (tC (.int 5))) (tC (.int 40692))) (tC (.int 2147483399))) (gSub (tVar 0) (tC (.int 5)) rSetL))
  (tRet (tOp (rI0 fun i j => .int (i + j)) (tOp (rIxL K) (tVar 0) (tC (.int 4))) (tOp (rIxL K) (tVar 0) (tC (.int 5)))))))
theorem rd_l_step {K : PySem.W.Frag} {mg : Str → Option Value} (T : Tx K mg) (vs : List V) (H : Hp) (Q : VK) (E : XK) (h : sp_l_step K vs H Q E) : t_l_step K { nx := fun _ H' => Q .non H', rt := Q } (start ["_law_hand_here"] vs) H := by
  obtain ⟨G, M, p, a, s, hand, r, h', rfl, S, hh, hm, q⟩ := h
  have E := Le.refl G
  unfold m_l_step at hm
  show t_l_step K _ [some (V.ref p)] H
  refine s_setLS (ev_modC (ev_mulR (ev_ixM (c := cI) (d := hand.x) (ev_ref rfl) ev_int upd_same rfl rfl) (ev_int (i := 48271)) (by decide)) (ev_int (i := 2147483647)) (by decide)) (ev_ref rfl) ev_int S upd_same rfl fun v _ _ e S r => ?_
  cases r
  rw [upd_in0] at S
  replace E := E.trans e
  replace hh := Cod.mono _ e hh
  obtain ⟨hand1, eq_hand1, hm⟩ := bindO hm
  have S : Sta _ (upd (M) p (handO a ({ hand with x := ((hand.x * 48271) % 2147483647) }))) _ := S
  rw [Option.some.inj eq_hand1] at S
  refine s_setLS (ev_modC (ev_mulR (ev_ixM (c := cI) (d := hand1.y) (ev_ref rfl) ev_int upd_same rfl rfl) (ev_int (i := 40692)) (by decide)) (ev_int (i := 2147483399)) (by decide)) (ev_ref rfl) ev_int S upd_same rfl fun v _ _ e S r => ?_
  cases r
  rw [upd_in0] at S
  replace E := E.trans e
  replace hh := Cod.mono _ e hh
  obtain ⟨hand2, eq_hand2, hm⟩ := bindO hm
  have S : Sta _ (upd (M) p (handO a ({ hand1 with y := ((hand1.y * 40692) % 2147483399) }))) _ := S
  rw [Option.some.inj eq_hand2] at S
  refine s_ret (ev_add (ev_ixM (c := cI) (d := hand2.x) (ev_ref rfl) ev_int upd_same rfl rfl) (ev_ixM (c := cI) (d := hand2.y) (ev_ref rfl) ev_int upd_same rfl rfl)) S fun v _ _ e S r => ?_
  cases hm
  exact q v _ _ (E.trans e) S r
theorem use_l_step {K : PySem.W.Frag} {G M : Hp} {E : XK} {s : (List Int)} {hand : Hand} {r : Int} {h' : Hand} {p a : Addr} (hh : (cL cI).r G (V.ref a) s) (hp : M p = some (handO a hand)) (hm : m_l_step s hand = some (r, h')) : ∀ (G1 H1 : Hp) (v0 : V) (Q : VK), Le G G1 → Sta G1 M H1 → (cA p).r G1 v0 () → Ret Q G1 (upd M p (handO a h')) cI r → sp_l_step K [v0] H1 Q E := by
  intro G1 H1 v0 Q e S r0 q
  cases r0
  exact ⟨G1, M, _, _, _, _, _, _, rfl, (by rw [upd_self hp]; exact S), Cod.mono _ e hh, hm, q⟩
theorem ok_l_step {P : Program} {w : World} {K : PySem.W.Frag} {mg : Str → Option Value} {base : Heap} (T : Tx K mg) : Fn P w K mg base CX0 1 "_law_step" ["_law_hand_here"] (sp_l_step K) :=
  fn_by T.g_l_step T.f_l_step sc_l_step (fun vs H Q E h => by obtain ⟨_, _, _, _, _, _, _, _, e, _⟩ := h; rw [e]; rfl) (fun _ _ _ _ _ _ us hl => match us, hl with | [_], _ => rfl) fun cdv A outer s H vs Q E hr h => ⟨t_l_step K,
    (pss_cons (ps_asg (pe_op op_modN (pe_op op_mul (pe_ix ix_list (pv 0) pe_int (fun _ _ => rfl)) pe_int) pe_int) (pg_sub (pv 0) pe_int set_list))
    (pss_cons (ps_asg (pe_op op_modN (pe_op op_mul (pe_ix ix_list (pv 0) pe_int (fun _ _ => rfl)) pe_int) pe_int) (pg_sub (pv 0) pe_int set_list))
    (pss_one (ps_ret (pe_op op_add (pe_ix ix_list (pv 0) pe_int (fun _ _ => rfl)) (pe_ix ix_list (pv 0) pe_int (fun _ _ => rfl))))))), rd_l_step T vs H Q E h⟩

/-! ### _law_take -/
abbrev s_l_take : Stmt := top 23
noncomputable def m_l_take (s : (List Int)) (hand : Hand) : Option (Unit × Hand) :=
  (Option.bind (if (decide (hand.i < (s.length : Int))) = true then
  (Option.bind (atI s hand.i) fun it =>
  some (if it < 0 then -it else it))
  else some 0) fun j =>
  (Option.bind (some { hand with i := (hand.i + 1) }) fun hand1 =>
  (Option.bind (if (decide (j ≥ 1000000000000000000)) = true then
  (Option.bind (some { hand1 with b := j }) fun hand2 =>
  some hand2)
  else (Option.bind (some { hand1 with c := 7 }) fun hand3 =>
  some hand3)) fun j1 =>
  (Option.bind (some { j1 with x := (((j1.x + (j % 2147483587)) % 2147483646) + 1) }) fun hand4 =>
  (Option.bind (some { hand4 with y := ((((hand4.y * 3) + (j % 1000003)) % 2147483398) + 1) }) fun hand5 =>
  (Option.bind (m_l_step s hand5) fun q0 =>
  (Option.bind (m_l_step s q0.2) fun q1 =>
  some ((), q1.2))))))))
def sp_l_take (K : PySem.W.Frag) : Sp := fun vs H Q _ => ∃ (G M : Hp) (p a : Addr) (s : List Int) (hand : Hand) (r : Unit) (h' : Hand), vs = [V.ref p] ∧ Sta G (upd M p (handO a hand)) H ∧ (cL cI).r G (V.ref a) s ∧ m_l_take s hand = some (r, h') ∧ Ret Q G (upd M p (handO a h')) cU r
theorem sc_l_take : FnScope ["_law_hand_here", "_law_cell"] ["_law_hand_here"] (defScope s_l_take) := ⟨rfl, rfl, rfl, by decide +kernel, rfl, by decide +kernel, by decide +kernel⟩
def t_l_take (K : PySem.W.Frag) : TS :=
  (tSeq (tAsg (tC (.int 0)) (gName 1))
  (tSeq (tIfS (tTest (tOp (rI0 fun i j => .bl (decide (i < j))) (tOp (rIxL K) (tVar 0) (tC (.int 1))) (tCB (rLenS K) (tCons (tOp (rIxL K) (tVar 0) (tC (.int 0))) tNil)))) (tAsg (tCB rAbs (tCons (tOp (rIxL K) (tOp (rIxL K) (tVar 0) (tC (.int 0))) (tOp (rIxL K) (tVar 0) (tC (.int 1)))) tNil)) (gName 1)) tNext)
  (tSeq (tAugS (tVar 0) (tC (.int 1)) (tC (.int 1)) (rIxL K) (ipI fun i j => i + j) rSetL)
  (tSeq (tIfS (tTest (tOp (rI0 fun i j => .bl (decide (i ≥ j))) (tVar 1) (tOp (rI CPow fun i j => .int (i ^ j.toNat)) (tC (.int 10)) (tC (.int 18))))) (tAsg (tVar 1) (gSub (tVar 0) (tC (.int 2)) rSetL)) (tAsg (tC (.int 7)) (gSub (tVar 0) (tC (.int 3)) rSetL)))
  (tSeq (tAsg (tOp (rI0 fun i j => .int (i + j)) (tOp (rI (fun _ j => j ≠ 0) fun i j => .int (i.fmod j)) (tOp (rI0 fun i j => .int (i + j)) (tOp (rIxL K) (tVar 0) (tC (.int 4))) (tOp (rI (fun _ j => j ≠ 0) fun i j => .int (i.fmod j)) (tVar 1) (tC (.int 2147483587)))) (tC (.int 2147483646))) (tC (.int 1))) (gSub (tVar 0) (tC (.int 4)) rSetL))
  (tSeq (tAsg (tOp (rI0 fun i j => .int (i + j)) (tOp (rI (fun _ j => j ≠ 0) fun i j => .int (i.fmod j)) (tOp (rI0 fun i j => .int (i + j)) (tOp (rI CMul fun i j => .int (i * j)) (tOp (rIxL K) (tVar 0) (tC (.int 5))) (tC (.int 3))) (tOp (rI (fun _ j => j ≠ 0) fun i j => .int (i.fmod j)) (tVar 1) (tC (.int 1000003)))) (tC (.int 2147483398))) (tC (.int 1))) (gSub (tVar 0) (tC (.int 5)) rSetL))
  (tSeq (tDrop (tCall (sp_l_step K) [] E0 (tCons (tVar 0) tNil)))
  (tDrop (tCall (sp_l_step K) [] E0 (tCons (tVar 0) tNil))))))))))
theorem rd_l_take {K : PySem.W.Frag} {mg : Str → Option Value} (T : Tx K mg) (vs : List V) (H : Hp) (Q : VK) (E : XK) (h : sp_l_take K vs H Q E) : t_l_take K { nx := fun _ H' => Q .non H', rt := Q } (start ["_law_hand_here", "_law_cell"] vs) H := by
  obtain ⟨G, M, p, a, s, hand, r, h', rfl, S, hh, hm, q⟩ := h
  have E := Le.refl G
  unfold m_l_take at hm
  show t_l_take K _ [some (V.ref p), none] H
  refine s_asgFS (ev_int (i := 0)) S fun _ _ e S => ?_
  replace E := E.trans e
  replace hh := Cod.mono _ e hh
  obtain ⟨j, hj, hm⟩ := bindO hm
  refine s_join (fun σ' H' => ∃ G', σ' = [some (V.ref p), some (V.int j)] ∧ Sta G' (upd (M) p (handO a hand)) H' ∧ Le G G' ∧ (cL cI).r G' (V.ref a) s) (fun KK => ?_) (fun σ' H' hP => ?_)
  · refine s_if (et_T (ev_lt (ev_ixM (c := cI) (d := hand.i) (ev_ref rfl) ev_int upd_same rfl rfl) (ev_len (ev_ixM (c := cL cI) (d := s) (ev_ref rfl) ev_int upd_same rfl hh)))) S (fun hb _ _ e S => ?_) (fun hb _ _ e S => ?_)
    · have hm := ite_T hb hj
      replace E := E.trans e
      replace hh := Cod.mono _ e hh
      obtain ⟨it, eq_it, hm⟩ := bindO hm
      refine s_asgF (ev_abs (ev_ixL (ev_ixM (c := cL cI) (d := s) (ev_ref rfl) ev_int upd_same rfl hh) (ev_ixM (c := cI) (d := hand.i) (ev_ref rfl) ev_int upd_same rfl rfl) eq_it)) S fun _ _ e S => ?_
      replace E := E.trans e
      replace hh := Cod.mono _ e hh
      cases hm
      exact KK _ _ ⟨_, rfl, S, E, hh⟩
    · have hm := ite_F hb hj
      replace E := E.trans e
      replace hh := Cod.mono _ e hh
      cases hm
      exact KK _ _ ⟨_, rfl, S, E, hh⟩
  · obtain ⟨_, rfl, S, E, hh⟩ := hP
    refine s_augLS (x := hand.i) (ev_ref rfl) ev_int upd_same rfl (ev_int (i := 1)) S upd_same rfl fun _ _ e S => ?_
    rw [upd_in0] at S
    replace E := E.trans e
    replace hh := Cod.mono _ e hh
    obtain ⟨hand1, eq_hand1, hm⟩ := bindO hm
    have S : Sta _ (upd (M) p (handO a ({ hand with i := (hand.i + 1) }))) _ := S
    rw [Option.some.inj eq_hand1] at S
    obtain ⟨j1, hj, hm⟩ := bindO hm
    refine s_join (fun σ' H' => ∃ G', σ' = [some (V.ref p), some (V.int j)] ∧ Sta G' (upd (M) p (handO a j1)) H' ∧ Le G G' ∧ (cL cI).r G' (V.ref a) s) (fun KK => ?_) (fun σ' H' hP => ?_)
    · refine s_if (et_T (ev_ge (ev_var (c := cI) (d := j) rfl rfl) (ev_of (ev_pow (ev_int (i := 10)) (ev_int (i := 18)) ⟨by decide, by decide, by decide⟩) (d' := 1000000000000000000) (by decide)))) S (fun hb _ _ e S => ?_) (fun hb _ _ e S => ?_)
      · have hm := ite_T hb hj
        replace E := E.trans e
        replace hh := Cod.mono _ e hh
        refine s_setL (ev_var (c := cI) (d := j) rfl rfl) (ev_ref rfl) ev_int S upd_same rfl fun v _ _ e S r => ?_
        cases r
        rw [upd_in0] at S
        replace E := E.trans e
        replace hh := Cod.mono _ e hh
        obtain ⟨hand2, eq_hand2, hm⟩ := bindO hm
        have S : Sta _ (upd (M) p (handO a ({ hand1 with b := j }))) _ := S
        rw [Option.some.inj eq_hand2] at S
        cases hm
        exact KK _ _ ⟨_, rfl, S, E, hh⟩
      · have hm := ite_F hb hj
        replace E := E.trans e
        replace hh := Cod.mono _ e hh
        refine s_setL (ev_int (i := 7)) (ev_ref rfl) ev_int S upd_same rfl fun v _ _ e S r => ?_
        cases r
        rw [upd_in0] at S
        replace E := E.trans e
        replace hh := Cod.mono _ e hh
        obtain ⟨hand3, eq_hand3, hm⟩ := bindO hm
        have S : Sta _ (upd (M) p (handO a ({ hand1 with c := 7 }))) _ := S
        rw [Option.some.inj eq_hand3] at S
        cases hm
        exact KK _ _ ⟨_, rfl, S, E, hh⟩
    · obtain ⟨_, rfl, S, E, hh⟩ := hP
      refine s_setLS (ev_add (ev_modC (ev_add (ev_ixM (c := cI) (d := j1.x) (ev_ref rfl) ev_int upd_same rfl rfl) (ev_modC (ev_var (c := cI) (d := j) rfl rfl) (ev_int (i := 2147483587)) (by decide))) (ev_int (i := 2147483646)) (by decide)) (ev_int (i := 1))) (ev_ref rfl) ev_int S upd_same rfl fun v _ _ e S r => ?_
      cases r
      rw [upd_in0] at S
      replace E := E.trans e
      replace hh := Cod.mono _ e hh
      obtain ⟨hand4, eq_hand4, hm⟩ := bindO hm
      have S : Sta _ (upd (M) p (handO a ({ j1 with x := (((j1.x + (j % 2147483587)) % 2147483646) + 1) }))) _ := S
      rw [Option.some.inj eq_hand4] at S
      refine s_setLS (ev_add (ev_modC (ev_add (ev_mulR (ev_ixM (c := cI) (d := hand4.y) (ev_ref rfl) ev_int upd_same rfl rfl) (ev_int (i := 3)) (by decide)) (ev_modC (ev_var (c := cI) (d := j) rfl rfl) (ev_int (i := 1000003)) (by decide))) (ev_int (i := 2147483398)) (by decide)) (ev_int (i := 1))) (ev_ref rfl) ev_int S upd_same rfl fun v _ _ e S r => ?_
      cases r
      rw [upd_in0] at S
      replace E := E.trans e
      replace hh := Cod.mono _ e hh
      obtain ⟨hand5, eq_hand5, hm⟩ := bindO hm
      have S : Sta _ (upd (M) p (handO a ({ hand4 with y := ((((hand4.y * 3) + (j % 1000003)) % 2147483398) + 1) }))) _ := S
      rw [Option.some.inj eq_hand5] at S
      obtain ⟨q0, eq_q0, hm⟩ := bindO hm
      refine s_dropS (ev_M (ec1 (use_l_step hh upd_same eq_q0) (ev_ref rfl)) upd_in0) S fun _ _ e S => ?_
      replace E := E.trans e
      replace hh := Cod.mono _ e hh
      obtain ⟨q1, eq_q1, hm⟩ := bindO hm
      refine s_drop (ev_M (ec1 (use_l_step hh upd_same eq_q1) (ev_ref rfl)) upd_in0) S fun _ _ e S => ?_
      replace E := E.trans e
      replace hh := Cod.mono _ e hh
      cases hm
      exact q V.non _ _ E S rfl
theorem use_l_take {K : PySem.W.Frag} {G M : Hp} {E : XK} {s : (List Int)} {hand : Hand} {r : Unit} {h' : Hand} {p a : Addr} (hh : (cL cI).r G (V.ref a) s) (hp : M p = some (handO a hand)) (hm : m_l_take s hand = some (r, h')) : ∀ (G1 H1 : Hp) (v0 : V) (Q : VK), Le G G1 → Sta G1 M H1 → (cA p).r G1 v0 () → Ret Q G1 (upd M p (handO a h')) cU r → sp_l_take K [v0] H1 Q E := by
  intro G1 H1 v0 Q e S r0 q
  cases r0
  exact ⟨G1, M, _, _, _, _, _, _, rfl, (by rw [upd_self hp]; exact S), Cod.mono _ e hh, hm, q⟩
theorem ok_l_take {P : Program} {w : World} {K : PySem.W.Frag} {mg : Str → Option Value} {base : Heap} (T : Tx K mg) (F_l_step : Fn P w K mg base CX0 1 "_law_step" ["_law_hand_here"] (sp_l_step K)) : Fn P w K mg base CX0 2 "_law_take" ["_law_hand_here"] (sp_l_take K) :=
  fn_by T.g_l_take T.f_l_take sc_l_take (fun vs H Q E h => by obtain ⟨_, _, _, _, _, _, _, _, e, _⟩ := h; rw [e]; rfl) (fun _ _ _ _ _ _ us hl => match us, hl with | [_], _ => rfl) fun cdv A outer s H vs Q E hr h => ⟨t_l_take K,
    (pss_cons (ps_set (i := 1) sc_l_take.nd rfl (Or.inl rfl) pe_int)
    (pss_cons (ps_if (pt_cmpR op_lt (pe_ix ix_list (pv 0) pe_int (fun _ _ => rfl)) (pe_callB call_len_seq (by rfl) T.b_len boot_len (pa_cons (pe_ix ix_list (pv 0) pe_int (fun _ _ => rfl)) pa_nil)) (nomark _)) (pss_one (ps_set (i := 1) sc_l_take.nd rfl (Or.inl rfl) (pe_callB call_abs (by rfl) T.b_abs (by decide +kernel) (pa_cons (pe_ix ix_list (pe_ix ix_list (pv 0) pe_int (fun _ _ => rfl)) (pe_ix ix_list (pv 0) pe_int (fun _ _ => rfl)) (fun _ _ => rfl)) pa_nil)))) pss_nil)
    (pss_cons (ps_augS (pv 0) pe_int get_list pe_int ip_add set_list)
    (pss_cons (ps_if (pt_cmpR op_ge (pv 1) (pe_op op_pow pe_int pe_int) (nomark _)) (pss_one (ps_asg (pv 1) (pg_sub (pv 0) pe_int set_list))) (pss_one (ps_asg pe_int (pg_sub (pv 0) pe_int set_list))))
    (pss_cons (ps_asg (pe_op op_add (pe_op op_modN (pe_op op_add (pe_ix ix_list (pv 0) pe_int (fun _ _ => rfl)) (pe_op op_modN (pv 1) pe_int)) pe_int) pe_int) (pg_sub (pv 0) pe_int set_list))
    (pss_cons (ps_asg (pe_op op_add (pe_op op_modN (pe_op op_add (pe_op op_mul (pe_ix ix_list (pv 0) pe_int (fun _ _ => rfl)) pe_int) (pe_op op_modN (pv 1) pe_int)) pe_int) pe_int) (pg_sub (pv 0) pe_int set_list))
    (pss_cons (ps_expr (pe_callF F_l_step (hr.mono (by decide)) pass0 (pa_cons (pv 0) pa_nil)))
    (pss_one (ps_expr (pe_callF F_l_step (hr.mono (by decide)) pass0 (pa_cons (pv 0) pa_nil))))))))))), rd_l_take T vs H Q E h⟩

/-! ### _law_draw -/
abbrev s_l_draw : Stmt := top 24
def t_l_draw_L1 (K : PySem.W.Frag) : TS :=
  (tSeq (tAsg (tOp (rI0 fun i j => .int (i + j)) (tOp (rI CMul fun i j => .int (i * j)) (tVar 3) (tC (.int 4294967296))) (tCall (sp_l_step K) [] E0 (tCons (tVar 0) tNil))) (gName 3))
  (tAsg (tOp (rI CMul fun i j => .int (i * j)) (tVar 4) (tC (.int 4294967296))) (gName 4)))
noncomputable def m_l_draw (s : (List Int)) (hand : Hand) (tally : Int) : Option (Int × Hand) :=
  (Option.bind (if ((decide (hand.b = 0)) && (decide (hand.c = 0))) = true then
  (Option.bind (m_l_take s hand) fun q0 =>
  some q0.2)
  else some hand) fun j =>
  (if (decide (j.b > 0)) = true then
  (Option.bind (modP j.b tally) fun mo =>
  (Option.bind (divP j.b tally) fun di =>
  (Option.bind (some { j with b := di }) fun hand1 =>
  some (mo, hand1))))
  else (Option.bind (some { j with c := (j.c - 1) }) fun hand2 =>
  (Option.bind (m_l_step s hand2) fun q1 =>
  (Option.bind (whileT (fun (st : Int × Int × Hand) => (if (decide (st.2.1 < tally)) = true then
  (Option.bind (m_l_step s st.2.2) fun q2 =>
  some (WT.next (((st.1 * 4294967296) + q2.1), (st.2.1 * 4294967296), q2.2)))
  else some (WT.stop (st.1, st.2.1, st.2.2)))) (q1.1, 4294967296, q1.2)) fun lp =>
  (Option.bind (modP lp.1 tally) fun mo1 =>
  some (mo1, lp.2.2)))))))
def sp_l_draw (K : PySem.W.Frag) : Sp := fun vs H Q _ => ∃ (G M : Hp) (p a : Addr) (s : List Int) (hand : Hand) (tally : Int) (r : Int) (h' : Hand), vs = [V.ref p, (V.int tally)] ∧ Sta G (upd M p (handO a hand)) H ∧ (cL cI).r G (V.ref a) s ∧ m_l_draw s hand tally = some (r, h') ∧ Ret Q G (upd M p (handO a h')) cI r
theorem sc_l_draw : FnScope ["_law_hand_here", "_law_tally", "_law_got", "_law_value_here", "_law_size"] ["_law_hand_here", "_law_tally"] (defScope s_l_draw) := ⟨rfl, rfl, rfl, by decide +kernel, rfl, by decide +kernel, by decide +kernel⟩
def t_l_draw (K : PySem.W.Frag) : TS :=
  (tSeq (tIfS (tAnd (tTest (tOp rEq (tOp (rIxL K) (tVar 0) (tC (.int 2))) (tC (.int 0)))) (tTest (tOp rEq (tOp (rIxL K) (tVar 0) (tC (.int 3))) (tC (.int 0))))) (tDrop (tCall (sp_l_take K) [] E0 (tCons (tVar 0) tNil))) tNext)
  (tSeq (tIfS (tTest (tOp (rI0 fun i j => .bl (decide (i > j))) (tOp (rIxL K) (tVar 0) (tC (.int 2))) (tC (.int 0)))) (tSeq (tAsg (tOp (rI (fun _ j => j ≠ 0) fun i j => .int (i.fmod j)) (tOp (rIxL K) (tVar 0) (tC (.int 2))) (tVar 1)) (gName 2))
  (tSeq (tAsg (tOp (rI CDivW fun i j => .int (i / j)) (tOp (rIxL K) (tVar 0) (tC (.int 2))) (tVar 1)) (gSub (tVar 0) (tC (.int 2)) rSetL))
  (tRet (tVar 2)))) tNext)
  (tSeq (tAugS (tVar 0) (tC (.int 3)) (tC (.int 1)) (rIxL K) (ipI fun i j => i - j) rSetL)
  (tSeq (tAsg (tCall (sp_l_step K) [] E0 (tCons (tVar 0) tNil)) (gName 3))
  (tSeq (tAsg (tC (.int 4294967296)) (gName 4))
  (tSeq (tWhile (tTest (tOp (rI0 fun i j => .bl (decide (i < j))) (tVar 4) (tVar 1))) (t_l_draw_L1 K))
  (tRet (tOp (rI (fun _ j => j ≠ 0) fun i j => .int (i.fmod j)) (tVar 3) (tVar 1)))))))))
theorem rd_l_draw {K : PySem.W.Frag} {mg : Str → Option Value} (T : Tx K mg) (vs : List V) (H : Hp) (Q : VK) (E : XK) (h : sp_l_draw K vs H Q E) : t_l_draw K { nx := fun _ H' => Q .non H', rt := Q } (start ["_law_hand_here", "_law_tally", "_law_got", "_law_value_here", "_law_size"] vs) H := by
  obtain ⟨G, M, p, a, s, hand, tally, r, h', rfl, S, hh, hm, q⟩ := h
  have E := Le.refl G
  unfold m_l_draw at hm
  show t_l_draw K _ [some (V.ref p), some (V.int tally), none, none, none] H
  obtain ⟨j, hj, hm⟩ := bindO hm
  refine s_join (fun σ' H' => ∃ G', σ' = [some (V.ref p), some (V.int tally), none, none, none] ∧ Sta G' (upd (M) p (handO a j)) H' ∧ Le G G' ∧ (cL cI).r G' (V.ref a) s) (fun KK => ?_) (fun σ' H' hP => ?_)
  · refine s_if (et_andT (et_T (ev_eq (ev_ixM (c := cI) (d := hand.b) (ev_ref rfl) ev_int upd_same rfl rfl) (ev_int (i := 0)))) (et_T (ev_eq (ev_ixM (c := cI) (d := hand.c) (ev_ref rfl) ev_int upd_same rfl rfl) (ev_int (i := 0))))) S (fun hb _ _ e S => ?_) (fun hb _ _ e S => ?_)
    · have hm := ite_T hb hj
      replace E := E.trans e
      replace hh := Cod.mono _ e hh
      obtain ⟨q0, eq_q0, hm⟩ := bindO hm
      refine s_drop (ev_M (ec1 (use_l_take hh upd_same eq_q0) (ev_ref rfl)) upd_in0) S fun _ _ e S => ?_
      replace E := E.trans e
      replace hh := Cod.mono _ e hh
      cases hm
      exact KK _ _ ⟨_, rfl, S, E, hh⟩
    · have hm := ite_F hb hj
      replace E := E.trans e
      replace hh := Cod.mono _ e hh
      cases hm
      exact KK _ _ ⟨_, rfl, S, E, hh⟩
  · obtain ⟨_, rfl, S, E, hh⟩ := hP
    refine s_ifL (et_T (ev_gt (ev_ixM (c := cI) (d := j.b) (ev_ref rfl) ev_int upd_same rfl rfl) (ev_int (i := 0)))) S (fun hb _ _ e S => ?_) (fun hb _ _ e S => ?_)
    · have hm := ite_T hb hm
      replace E := E.trans e
      replace hh := Cod.mono _ e hh
      obtain ⟨mo, eq_mo, hm⟩ := bindO hm
      refine s_asgFS (ev_mod (ev_ixM (c := cI) (d := j.b) (ev_ref rfl) ev_int upd_same rfl rfl) (ev_var (c := cI) (d := tally) rfl rfl) eq_mo) S fun _ _ e S => ?_
      replace E := E.trans e
      replace hh := Cod.mono _ e hh
      obtain ⟨di, eq_di, hm⟩ := bindO hm
      refine s_setLS (ev_div (ev_ixM (c := cI) (d := j.b) (ev_ref rfl) ev_int upd_same rfl rfl) (ev_var (c := cI) (d := tally) rfl rfl) eq_di) (ev_ref rfl) ev_int S upd_same rfl fun v _ _ e S r => ?_
      cases r
      rw [upd_in0] at S
      replace E := E.trans e
      replace hh := Cod.mono _ e hh
      obtain ⟨hand1, eq_hand1, hm⟩ := bindO hm
      have S : Sta _ (upd (M) p (handO a ({ j with b := di }))) _ := S
      rw [Option.some.inj eq_hand1] at S
      refine s_ret (ev_var (c := cI) (d := mo) rfl rfl) S fun v _ _ e S r => ?_
      cases hm
      exact q v _ _ (E.trans e) S r
    · have hm := ite_F hb hm
      replace E := E.trans e
      replace hh := Cod.mono _ e hh
      refine s_augLS (x := j.c) (ev_ref rfl) ev_int upd_same rfl (ev_int (i := 1)) S upd_same rfl fun _ _ e S => ?_
      rw [upd_in0] at S
      replace E := E.trans e
      replace hh := Cod.mono _ e hh
      obtain ⟨hand2, eq_hand2, hm⟩ := bindO hm
      have S : Sta _ (upd (M) p (handO a ({ j with c := (j.c - 1) }))) _ := S
      rw [Option.some.inj eq_hand2] at S
      obtain ⟨q1, eq_q1, hm⟩ := bindO hm
      refine s_asgFS (ev_M (ec1 (use_l_step hh upd_same eq_q1) (ev_ref rfl)) upd_in0) S fun _ _ e S => ?_
      replace E := E.trans e
      replace hh := Cod.mono _ e hh
      refine s_asgFS (ev_int (i := 4294967296)) S fun _ _ e S => ?_
      replace E := E.trans e
      replace hh := Cod.mono _ e hh
      obtain ⟨lp, hf, hm⟩ := bindO hm
      refine s_whileTS S hf (fun st G' M' σ' => σ' = [some (V.ref p), some (V.int tally), none, some (V.int st.1), some (V.int st.2.1)] ∧ M' = upd (M) p (handO a st.2.2) ∧ Le G G' ∧ (cL cI).r G' (V.ref a) s) ?_ (fun st wf Gl1 M0 H0 σ0 e0 S hR hm => ?_) (fun G1 M2 H1 σ1 e S hR => ?_)
      · exact ⟨rfl, rfl, E, hh⟩
      · obtain ⟨rfl, rfl, E, hh⟩ := hR
        have E1 := Le.refl Gl1
        refine ⟨_, _, (et_T (ev_lt (ev_var (c := cI) (d := st.2.1) rfl rfl) (ev_var (c := cI) (d := tally) rfl rfl))), fun hb _ _ e S => ?_, fun hb _ _ e S => ?_⟩
        · have hm := ite_T hb hm
          replace E := E.trans e
          replace E1 := E1.trans e
          replace hh := Cod.mono _ e hh
          show t_l_draw_L1 K _ [some (V.ref p), some (V.int tally), none, some (V.int st.1), some (V.int st.2.1)] _
          obtain ⟨q2, eq_q2, hm⟩ := bindO hm
          refine s_asgFS (ev_add (ev_mulR (ev_var (c := cI) (d := st.1) rfl rfl) (ev_int (i := 4294967296)) (by decide)) (ev_M (ec1 (use_l_step hh upd_same eq_q2) (ev_ref rfl)) upd_in0)) S fun _ _ e S => ?_
          replace E := E.trans e
          replace E1 := E1.trans e
          replace hh := Cod.mono _ e hh
          refine s_asgF (ev_mulR (ev_var (c := cI) (d := st.2.1) rfl rfl) (ev_int (i := 4294967296)) (by decide)) S fun _ _ e S => ?_
          replace E := E.trans e
          replace E1 := E1.trans e
          replace hh := Cod.mono _ e hh
          cases hm
          exact ⟨_, _, _, rfl, E1, S, ⟨rfl, rfl, E, hh⟩⟩
        · have hm := ite_F hb hm
          replace E := E.trans e
          replace E1 := E1.trans e
          replace hh := Cod.mono _ e hh
          cases hm
          exact ⟨_, _, _, rfl, E1, S, ⟨rfl, rfl, E, hh⟩⟩
      · obtain ⟨rfl, rfl, E, hh⟩ := hR
        obtain ⟨mo1, eq_mo1, hm⟩ := bindO hm
        refine s_ret (ev_mod (ev_var (c := cI) (d := lp.1) rfl rfl) (ev_var (c := cI) (d := tally) rfl rfl) eq_mo1) S fun v _ _ e S r => ?_
        cases hm
        exact q v _ _ (E.trans e) S r
theorem use_l_draw {K : PySem.W.Frag} {G M : Hp} {E : XK} {s : (List Int)} {hand : Hand} {tally : Int} {r : Int} {h' : Hand} {p a : Addr} (hh : (cL cI).r G (V.ref a) s) (hp : M p = some (handO a hand)) (hm : m_l_draw s hand tally = some (r, h')) : ∀ (G1 H1 : Hp) (v0 v1 : V) (Q : VK), Le G G1 → Sta G1 M H1 → (cA p).r G1 v0 () → cI.r G1 v1 tally → Ret Q G1 (upd M p (handO a h')) cI r → sp_l_draw K [v0, v1] H1 Q E := by
  intro G1 H1 v0 v1 Q e S r0 r1 q
  cases r0
  cases r1
  exact ⟨G1, M, _, _, _, _, _, _, _, rfl, (by rw [upd_self hp]; exact S), Cod.mono _ e hh, hm, q⟩
theorem ok_l_draw {P : Program} {w : World} {K : PySem.W.Frag} {mg : Str → Option Value} {base : Heap} (T : Tx K mg) (F_l_step : Fn P w K mg base CX0 1 "_law_step" ["_law_hand_here"] (sp_l_step K)) (F_l_take : Fn P w K mg base CX0 2 "_law_take" ["_law_hand_here"] (sp_l_take K)) : Fn P w K mg base CX0 3 "_law_draw" ["_law_hand_here", "_law_tally"] (sp_l_draw K) :=
  fn_by T.g_l_draw T.f_l_draw sc_l_draw (fun vs H Q E h => by obtain ⟨_, _, _, _, _, _, _, _, _, e, _⟩ := h; rw [e]; rfl) (fun _ _ _ _ _ _ us hl => match us, hl with | [_, _], _ => rfl) fun cdv A outer s H vs Q E hr h => ⟨t_l_draw K,
    (pss_cons (ps_if (PW.pt (pw_and (pt_cmpR op_eq (pe_ix ix_list (pv 0) pe_int (fun _ _ => rfl)) pe_int (nomark _)) (pw_and1 (pt_cmpR op_eq (pe_ix ix_list (pv 0) pe_int (fun _ _ => rfl)) pe_int (nomark _))))) (pss_one (ps_expr (pe_callF F_l_take (hr.mono (by decide)) pass0 (pa_cons (pv 0) pa_nil)))) pss_nil)
    (pss_cons (ps_if (pt_cmpR op_gt (pe_ix ix_list (pv 0) pe_int (fun _ _ => rfl)) pe_int (nomark _)) (pss_cons (ps_set (i := 2) sc_l_draw.nd rfl (Or.inl rfl) (pe_op op_modN (pe_ix ix_list (pv 0) pe_int (fun _ _ => rfl)) (pv 1)))
    (pss_cons (ps_asg (pe_op op_fdivW (pe_ix ix_list (pv 0) pe_int (fun _ _ => rfl)) (pv 1)) (pg_sub (pv 0) pe_int set_list))
    (pss_one (ps_ret (pv 2))))) pss_nil)
    (pss_cons (ps_augS (pv 0) pe_int get_list pe_int ip_sub set_list)
    (pss_cons (ps_set (i := 3) sc_l_draw.nd rfl (Or.inl rfl) (pe_callF F_l_step (hr.mono (by decide)) pass0 (pa_cons (pv 0) pa_nil)))
    (pss_cons (ps_set (i := 4) sc_l_draw.nd rfl (Or.inl rfl) pe_int)
    (pss_cons (ps_while PassesOwn.never (pt_cmpR op_lt (pv 4) (pv 1) (nomark _)) (pss_cons (ps_set (i := 3) sc_l_draw.nd rfl (Or.inl rfl) (pe_op op_add (pe_op op_mul (pv 3) pe_int) (pe_callF F_l_step (hr.mono (by decide)) pass0 (pa_cons (pv 0) pa_nil))))
    (pss_one (ps_set (i := 4) sc_l_draw.nd rfl (Or.inl rfl) (pe_op op_mul (pv 4) pe_int)))))
    (pss_one (ps_ret (pe_op op_modN (pv 3) (pv 1)))))))))), rd_l_draw T vs H Q E h⟩

/-! ### _law_names -/
abbrev s_l_names : Stmt := top 26
noncomputable def m_l_names (s : (List Int)) (hand : Hand) (many : Int) : Option ((List Str) × Hand) :=
  (Option.bind (catS ("join give wish withdraw meet undo redo purses lot choices plan room left could yes no ok" : Str) (" a b ab ba aa z zz" : Str)) fun ct =>
  (Option.bind (splitP ct (" " : Str)) fun sp =>
  (Option.bind (m_l_draw s hand 4) fun q0 =>
  (Option.bind (m_l_draw s q0.2 24) fun q1 =>
  (Option.bind (m_l_draw s q1.2 7) fun q2 =>
  (Option.bind (rangeB (1 + q2.1)) fun ra =>
  (Option.bind (lcH (fun (t0 : Hand) (x0 : Int) => (Option.bind (m_l_draw s t0 26) fun q3 =>
  (Option.bind (signAt ("abcdefghijklmnopqrstuvwxyz" : Str) q3.1) fun sg =>
  some (some sg, q3.2)))) ra q2.2) fun lc =>
  (Option.bind (joinP ("" : Str) lc.1) fun jo =>
  (Option.bind (lenS jo) fun le =>
  (Option.bind (m_l_draw s lc.2 (le + 1)) fun q4 =>
  (if (decide ((q0.1, q1.1).1 = 0)) = true then
  (Option.bind (catL (cutD sp (some (q0.1, q1.1).2) none) (cutD sp none (some (q0.1, q1.1).2))) fun ct1 =>
  some ((cutD ct1 none (some many)), q4.2))
  else (if (decide ((q0.1, q1.1).1 = 1)) = true then
  (Option.bind (rangeB many) fun ra1 =>
  (Option.bind (lcP (fun (x1 : Int) => (Option.bind (signAt ("abcdefghijklmnopqrstuvwxyz" : Str) (((q0.1, q1.1).2 + (3 * x1)) % 26)) fun sg1 =>
  some (some sg1))) ra1) fun lc1 =>
  some (lc1, q4.2)))
  else (Option.bind (rangeB many) fun ra2 =>
  (Option.bind (lcP (fun (x2 : Int) => (Option.bind (cutSP jo none (some q4.1)) fun cu =>
  (Option.bind (signAt ("abcdefghijklmnopqrstuvwxyz" : Str) (((q0.1, q1.1).2 + (3 * x2)) % 26)) fun sg2 =>
  (Option.bind (catS cu sg2) fun ct2 =>
  (Option.bind (cutSP jo (some q4.1) none) fun cu1 =>
  (Option.bind (catS ct2 cu1) fun ct3 =>
  some (some ct3))))))) ra2) fun lc2 =>
  some (lc2, q4.2)))))))))))))))
def sp_l_names (K : PySem.W.Frag) : Sp := fun vs H Q _ => ∃ (G M : Hp) (p a : Addr) (s : List Int) (hand : Hand) (many : Int) (r : (List Str)) (h' : Hand), vs = [V.ref p, (V.int many)] ∧ Sta G (upd M p (handO a hand)) H ∧ (cL cI).r G (V.ref a) s ∧ m_l_names s hand many = some (r, h') ∧ Ret Q G (upd M p (handO a h')) (cL cS) r
theorem sc_l_names : FnScope ["_law_hand_here", "_law_many", "_law_letters", "_law_words", "_law_way", "_law_turn", "_law_base", "_law_at", "_law_k"] ["_law_hand_here", "_law_many"] (defScope s_l_names) := ⟨rfl, rfl, rfl, by decide +kernel, rfl, by decide +kernel, by decide +kernel⟩
def t_l_names (K : PySem.W.Frag) : TS :=
  (tSeq (tAsg (tC (.str "abcdefghijklmnopqrstuvwxyz")) (gName 2))
  (tSeq (tAsg (tC (.str "join give wish withdraw meet undo redo purses lot choices plan room left could yes no ok")) (gName 3))
  (tSeq (tAsg (tM1 rSplit (tOp rCatS (tVar 3) (tC (.str " a b ab ba aa z zz"))) (tC (.str " "))) (gName 3))
  (tSeq (tAsg (tTup (tCons (tCall (sp_l_draw K) [] E0 (tCons (tVar 0) (tCons (tC (.int 4)) tNil))) (tCons (tCall (sp_l_draw K) [] E0 (tCons (tVar 0) (tCons (tC (.int 24)) tNil))) tNil))) (gTup K 2 (gCons (gName 4) (gCons (gName 5) gNil))))
  (tSeq (tAsg (tM1 (rJoin K) (tC (.str "")) (tLc (iRng1 (tCons (tOp (rI0 fun i j => .int (i + j)) (tC (.int 1)) (tCall (sp_l_draw K) [] E0 (tCons (tVar 0) (tCons (tC (.int 7)) tNil)))) tNil)) (gName 8) tYes (tOp rIxS (tVar 2) (tCall (sp_l_draw K) [] E0 (tCons (tVar 0) (tCons (tC (.int 26)) tNil)))) [8])) (gName 6))
  (tSeq (tAsg (tCall (sp_l_draw K) [] E0 (tCons (tVar 0) (tCons (tOp (rI0 fun i j => .int (i + j)) (tCB rLenStr (tCons (tVar 6) tNil)) (tC (.int 1))) tNil))) (gName 7))
  (tSeq (tIfS (tTest (tOp rEq (tVar 4) (tC (.int 0)))) (tRet (tSl (rSlL K) (tOp rCat (tSl (rSlL K) (tVar 3) (tPart (tVar 5)) tNoPart) (tSl (rSlL K) (tVar 3) tNoPart (tPart (tVar 5)))) tNoPart (tPart (tVar 1)))) tNext)
  (tSeq (tIfS (tTest (tOp rEq (tVar 4) (tC (.int 1)))) (tRet (tLc (iRng1 (tCons (tVar 1) tNil)) (gName 8) tYes (tOp rIxS (tVar 2) (tOp (rI (fun _ j => j ≠ 0) fun i j => .int (i.fmod j)) (tOp (rI0 fun i j => .int (i + j)) (tVar 5) (tOp (rI CMul fun i j => .int (i * j)) (tC (.int 3)) (tVar 8))) (tC (.int 26)))) [8])) tNext)
  (tRet (tLc (iRng1 (tCons (tVar 1) tNil)) (gName 8) tYes (tOp rCatS (tOp rCatS (tSl rSlS (tVar 6) tNoPart (tPart (tVar 7))) (tOp rIxS (tVar 2) (tOp (rI (fun _ j => j ≠ 0) fun i j => .int (i.fmod j)) (tOp (rI0 fun i j => .int (i + j)) (tVar 5) (tOp (rI CMul fun i j => .int (i * j)) (tC (.int 3)) (tVar 8))) (tC (.int 26))))) (tSl rSlS (tVar 6) (tPart (tVar 7)) tNoPart)) [8]))))))))))
theorem rd_l_names {K : PySem.W.Frag} {mg : Str → Option Value} (T : Tx K mg) (vs : List V) (H : Hp) (Q : VK) (E : XK) (h : sp_l_names K vs H Q E) : t_l_names K { nx := fun _ H' => Q .non H', rt := Q } (start ["_law_hand_here", "_law_many", "_law_letters", "_law_words", "_law_way", "_law_turn", "_law_base", "_law_at", "_law_k"] vs) H := by
  obtain ⟨G, M, p, a, s, hand, many, r, h', rfl, S, hh, hm, q⟩ := h
  have E := Le.refl G
  unfold m_l_names at hm
  show t_l_names K _ [some (V.ref p), some (V.int many), none, none, none, none, none, none, none] H
  refine s_asgFS (ev_str (i := "abcdefghijklmnopqrstuvwxyz")) S fun _ _ e S => ?_
  replace E := E.trans e
  replace hh := Cod.mono _ e hh
  refine s_asgFS (ev_str (i := "join give wish withdraw meet undo redo purses lot choices plan room left could yes no ok")) S fun _ _ e S => ?_
  replace E := E.trans e
  replace hh := Cod.mono _ e hh
  obtain ⟨ct, eq_ct, hm⟩ := bindO hm
  obtain ⟨sp, eq_sp, hm⟩ := bindO hm
  refine s_asgS (ev_frzL (en_split (ev_catS (ev_var (c := cS) (d := ("join give wish withdraw meet undo redo purses lot choices plan room left could yes no ok" : Str)) rfl rfl) (ev_str (i := " a b ab ba aa z zz")) eq_ct) (ev_str (i := " ")) eq_sp)) S fun v_words _ _ e S h_words => ?_
  replace E := E.trans e
  replace hh := Cod.mono _ e hh
  obtain ⟨q0, eq_q0, hm⟩ := bindO hm
  obtain ⟨q1, eq_q1, hm⟩ := bindO hm
  refine s_tgtS (ev_tup2 (ev_M (ec2 (use_l_draw hh upd_same eq_q0) (ev_ref rfl) (ev_int (i := 4))) upd_in0) (ev_M (ec2 (use_l_draw hh upd_same eq_q1) (ev_ref rfl) (ev_int (i := 24))) upd_in0)) S fun v0 _ _ e S h0 => ?_
  replace E := E.trans e
  replace hh := Cod.mono _ e hh
  replace h_words := Cod.mono _ e h_words
  obtain ⟨tp, u, u1, rfl, ht, h1, h2⟩ := h0
  refine ⟨tp, _, rfl, SqT.of (S.g.tup ht), rfl, ?_⟩
  refine ⟨_, _, rfl, ?_⟩
  cases h1
  refine ⟨_, _, rfl, ?_⟩
  cases h2
  refine ⟨rfl, ?_⟩
  obtain ⟨q2, eq_q2, hm⟩ := bindO hm
  obtain ⟨ra, eq_ra, hm⟩ := bindO hm
  obtain ⟨lc, eq_lc, hm⟩ := bindO hm
  obtain ⟨jo, eq_jo, hm⟩ := bindO hm
  refine s_asgFS (ev_join (ev_str (i := "")) (ev_frzL (en_M (en_lcH (o := handO a) (f := (fun (t0 : Hand) (x0 : Int) => (Option.bind (m_l_draw s t0 26) fun q3 =>
  (Option.bind (signAt ("abcdefghijklmnopqrstuvwxyz" : Str) q3.1) fun sg =>
  some (some sg, q3.2))))) (ew_range1B (ev_add (ev_int (i := 1)) (ev_M (ec2 (use_l_draw hh upd_same eq_q2) (ev_ref rfl) (ev_int (i := 7))) upd_in0)) eq_ra) upd_same eq_lc (by
        intro x0 x G1 H1 t0 ob hmem e1 l1 r1 hm
        have hh := Cod.mono _ e1 hh
        cases r1
        obtain ⟨q3, eq_q3, hm⟩ := bindO hm
        obtain ⟨sg, eq_sg, hm⟩ := bindO hm
        cases hm
        refine ⟨rfl, rfl, fun Mo => ⟨true, t0, et_yes, fun _ => ⟨_, rfl, (ev_ixS (ev_var (c := cS) (d := ("abcdefghijklmnopqrstuvwxyz" : Str)) rfl rfl) (ev_M (ec2 (use_l_draw hh upd_same eq_q3) (ev_ref rfl) (ev_int (i := 26))) upd_in0) eq_sg)⟩, fun h => nomatch h⟩⟩) (fun x H1 P P' => gm_name x _ H1 P P')) upd_in0)) eq_jo) S fun _ _ e S => ?_
  replace E := E.trans e
  replace hh := Cod.mono _ e hh
  replace h_words := Cod.mono _ e h_words
  obtain ⟨le, eq_le, hm⟩ := bindO hm
  obtain ⟨q4, eq_q4, hm⟩ := bindO hm
  refine s_asgFS (ev_M (ec2 (use_l_draw hh upd_same eq_q4) (ev_ref rfl) (ev_add (ev_lenS (ev_var (c := cS) (d := jo) rfl rfl) eq_le) (ev_int (i := 1)))) upd_in0) S fun _ _ e S => ?_
  replace E := E.trans e
  replace hh := Cod.mono _ e hh
  replace h_words := Cod.mono _ e h_words
  refine s_ifL (et_T (ev_eq (ev_var (c := cI) (d := (q0.1, q1.1).1) rfl rfl) (ev_int (i := 0)))) S (fun hb _ _ e S => ?_) (fun hb _ _ e S => ?_)
  · have hm := ite_T hb hm
    replace E := E.trans e
    replace hh := Cod.mono _ e hh
    replace h_words := Cod.mono _ e h_words
    obtain ⟨ct1, eq_ct1, hm⟩ := bindO hm
    refine s_ret (ev_frzL (en_slice (ev_frzL (en_cat (ev_frzL (en_slice (ev_var rfl h_words) (eo_some (ev_var (c := cI) (d := (q0.1, q1.1).2) rfl rfl)) eo_none)) (ev_frzL (en_slice (ev_var rfl h_words) eo_none (eo_some (ev_var (c := cI) (d := (q0.1, q1.1).2) rfl rfl)))) eq_ct1)) eo_none (eo_some (ev_var (c := cI) (d := many) rfl rfl)))) S fun v _ _ e S r => ?_
    cases hm
    exact q v _ _ (E.trans e) S r
  · have hm := ite_F hb hm
    replace E := E.trans e
    replace hh := Cod.mono _ e hh
    refine s_ifL (et_T (ev_eq (ev_var (c := cI) (d := (q0.1, q1.1).1) rfl rfl) (ev_int (i := 1)))) S (fun hb _ _ e S => ?_) (fun hb _ _ e S => ?_)
    · have hm := ite_T hb hm
      replace E := E.trans e
      replace hh := Cod.mono _ e hh
      obtain ⟨ra1, eq_ra1, hm⟩ := bindO hm
      obtain ⟨lc1, eq_lc1, hm⟩ := bindO hm
      refine s_ret (ev_frzL (en_lc (f := (fun (x1 : Int) => (Option.bind (signAt ("abcdefghijklmnopqrstuvwxyz" : Str) (((q0.1, q1.1).2 + (3 * x1)) % 26)) fun sg1 =>
  some (some sg1)))) (ew_range1B (ev_var (c := cI) (d := many) rfl rfl) eq_ra1) eq_lc1 (by
            intro x1 x G1 H1 ob hmem e1 l1 r1 hm
            have hh := Cod.mono _ e1 hh
            cases r1
            obtain ⟨sg1, eq_sg1, hm⟩ := bindO hm
            cases hm
            refine ⟨rfl, rfl, fun Mo sM => ⟨true, et_yes, fun _ => ⟨_, rfl, (ev_ixS (ev_var (c := cS) (d := ("abcdefghijklmnopqrstuvwxyz" : Str)) rfl rfl) (ev_modC (ev_add (ev_var (c := cI) (d := (q0.1, q1.1).2) rfl rfl) (ev_mulL (ev_int (i := 3)) (ev_var (c := cI) (d := x1) rfl rfl) (by decide))) (ev_int (i := 26)) (by decide)) eq_sg1)⟩, fun h => nomatch h⟩⟩) (fun x H1 P P' => gm_name x _ H1 P P'))) S fun v _ _ e S r => ?_
      cases hm
      exact q v _ _ (E.trans e) S r
    · have hm := ite_F hb hm
      replace E := E.trans e
      replace hh := Cod.mono _ e hh
      obtain ⟨ra2, eq_ra2, hm⟩ := bindO hm
      obtain ⟨lc2, eq_lc2, hm⟩ := bindO hm
      refine s_ret (ev_frzL (en_lc (f := (fun (x2 : Int) => (Option.bind (cutSP jo none (some q4.1)) fun cu =>
  (Option.bind (signAt ("abcdefghijklmnopqrstuvwxyz" : Str) (((q0.1, q1.1).2 + (3 * x2)) % 26)) fun sg2 =>
  (Option.bind (catS cu sg2) fun ct2 =>
  (Option.bind (cutSP jo (some q4.1) none) fun cu1 =>
  (Option.bind (catS ct2 cu1) fun ct3 =>
  some (some ct3)))))))) (ew_range1B (ev_var (c := cI) (d := many) rfl rfl) eq_ra2) eq_lc2 (by
            intro x2 x G1 H1 ob hmem e1 l1 r1 hm
            have hh := Cod.mono _ e1 hh
            cases r1
            obtain ⟨cu, eq_cu, hm⟩ := bindO hm
            obtain ⟨sg2, eq_sg2, hm⟩ := bindO hm
            obtain ⟨ct2, eq_ct2, hm⟩ := bindO hm
            obtain ⟨cu1, eq_cu1, hm⟩ := bindO hm
            obtain ⟨ct3, eq_ct3, hm⟩ := bindO hm
            cases hm
            refine ⟨rfl, rfl, fun Mo sM => ⟨true, et_yes, fun _ => ⟨_, rfl, (ev_catS (ev_catS (ev_sliceS (ev_var (c := cS) (d := jo) rfl rfl) eo_none (eo_some (ev_var (c := cI) (d := q4.1) rfl rfl)) eq_cu) (ev_ixS (ev_var (c := cS) (d := ("abcdefghijklmnopqrstuvwxyz" : Str)) rfl rfl) (ev_modC (ev_add (ev_var (c := cI) (d := (q0.1, q1.1).2) rfl rfl) (ev_mulL (ev_int (i := 3)) (ev_var (c := cI) (d := x2) rfl rfl) (by decide))) (ev_int (i := 26)) (by decide)) eq_sg2) eq_ct2) (ev_sliceS (ev_var (c := cS) (d := jo) rfl rfl) (eo_some (ev_var (c := cI) (d := q4.1) rfl rfl)) eo_none eq_cu1) eq_ct3)⟩, fun h => nomatch h⟩⟩) (fun x H1 P P' => gm_name x _ H1 P P'))) S fun v _ _ e S r => ?_
      cases hm
      exact q v _ _ (E.trans e) S r
theorem use_l_names {K : PySem.W.Frag} {G M : Hp} {E : XK} {s : (List Int)} {hand : Hand} {many : Int} {r : (List Str)} {h' : Hand} {p a : Addr} (hh : (cL cI).r G (V.ref a) s) (hp : M p = some (handO a hand)) (hm : m_l_names s hand many = some (r, h')) : ∀ (G1 H1 : Hp) (v0 v1 : V) (Q : VK), Le G G1 → Sta G1 M H1 → (cA p).r G1 v0 () → cI.r G1 v1 many → Ret Q G1 (upd M p (handO a h')) (cL cS) r → sp_l_names K [v0, v1] H1 Q E := by
  intro G1 H1 v0 v1 Q e S r0 r1 q
  cases r0
  cases r1
  exact ⟨G1, M, _, _, _, _, _, _, _, rfl, (by rw [upd_self hp]; exact S), Cod.mono _ e hh, hm, q⟩
theorem ok_l_names {P : Program} {w : World} {K : PySem.W.Frag} {mg : Str → Option Value} {base : Heap} (T : Tx K mg) (F_l_draw : Fn P w K mg base CX0 3 "_law_draw" ["_law_hand_here", "_law_tally"] (sp_l_draw K)) : Fn P w K mg base CX0 4 "_law_names" ["_law_hand_here", "_law_many"] (sp_l_names K) :=
  fn_by T.g_l_names T.f_l_names sc_l_names (fun vs H Q E h => by obtain ⟨_, _, _, _, _, _, _, _, _, e, _⟩ := h; rw [e]; rfl) (fun _ _ _ _ _ _ us hl => match us, hl with | [_, _], _ => rfl) fun cdv A outer s H vs Q E hr h => ⟨t_l_names K,
    (pss_cons (ps_set (i := 2) sc_l_names.nd rfl (Or.inr rfl) pe_str)
    (pss_cons (ps_set (i := 3) sc_l_names.nd rfl (Or.inl rfl) pe_str)
    (pss_cons (ps_set (i := 3) sc_l_names.nd rfl (Or.inl rfl) (pe_split (pe_op op_add_str (pv 3) pe_str) pe_str))
    (pss_cons (ps_asg (pe_tup (pa_cons (pe_callF F_l_draw (hr.mono (by decide)) pass0 (pa_cons (pv 0) (pa_cons pe_int pa_nil))) (pa_cons (pe_callF F_l_draw (hr.mono (by decide)) pass0 (pa_cons (pv 0) (pa_cons pe_int pa_nil))) pa_nil))) (pg_tup rfl (pgs_cons (pg_name (i := 4) sc_l_names.nd rfl (Or.inl rfl)) (pgs_cons (pg_name (i := 5) sc_l_names.nd rfl (Or.inr rfl)) pgs_nil))))
    (pss_cons (ps_set (i := 6) sc_l_names.nd rfl (Or.inr rfl) (pe_join pe_str (pe_lc (own := [("_law_k", 8)]) rfl sc_l_names.nd (pi_range1 rfl T.b_range (pa_cons (pe_op op_add pe_int (pe_callF F_l_draw (hr.mono (by decide)) pass0 (pa_cons (pv 0) (pa_cons pe_int pa_nil)))) pa_nil)) (blkOk_by (own := [("_law_k", 8)]) (N := ["_law_hand_here", "_law_many", "_law_letters", "_law_words", "_law_way", "_law_turn", "_law_base", "_law_at", "_law_k"]) (sc := defScope s_l_names) (by decide +kernel)) (fun _ _ _ _ _ => (pg_name (i := 8) sc_l_names.nd rfl (Or.inl rfl))) (fun _ _ _ _ _ => pts_nil) (fun _ _ _ _ _ => (pe_ix ix_str (pv 2) (pe_callF F_l_draw (hr.mono (by decide)) pass0 (pa_cons (pv 0) (pa_cons pe_int pa_nil))) (fun _ _ => rfl))))))
    (pss_cons (ps_set (i := 7) sc_l_names.nd rfl (Or.inr rfl) (pe_callF F_l_draw (hr.mono (by decide)) pass0 (pa_cons (pv 0) (pa_cons (pe_op op_add (pe_callB call_len_str (by rfl) T.b_len boot_len (pa_cons (pv 6) pa_nil)) pe_int) pa_nil))))
    (pss_cons (ps_if (pt_cmpR op_eq (pv 4) pe_int (nomark _)) (pss_one (ps_ret (pe_slice sl_list (pe_op op_cat (pe_slice sl_list (pv 3) (po_some (pv 5)) po_none) (pe_slice sl_list (pv 3) po_none (po_some (pv 5)))) po_none (po_some (pv 1))))) pss_nil)
    (pss_cons (ps_if (pt_cmpR op_eq (pv 4) pe_int (nomark _)) (pss_one (ps_ret (pe_lc (own := [("_law_k", 8)]) rfl sc_l_names.nd (pi_range1 rfl T.b_range (pa_cons (pv 1) pa_nil)) (blkOk_by (own := [("_law_k", 8)]) (N := ["_law_hand_here", "_law_many", "_law_letters", "_law_words", "_law_way", "_law_turn", "_law_base", "_law_at", "_law_k"]) (sc := defScope s_l_names) (by decide +kernel)) (fun _ _ _ _ _ => (pg_name (i := 8) sc_l_names.nd rfl (Or.inl rfl))) (fun _ _ _ _ _ => pts_nil) (fun _ _ _ _ _ => (pe_ix ix_str (pv 2) (pe_op op_modN (pe_op op_add (pv 5) (pe_op op_mul pe_int (pv 8))) pe_int) (fun _ _ => rfl)))))) pss_nil)
    (pss_one (ps_ret (pe_lc (own := [("_law_k", 8)]) rfl sc_l_names.nd (pi_range1 rfl T.b_range (pa_cons (pv 1) pa_nil)) (blkOk_by (own := [("_law_k", 8)]) (N := ["_law_hand_here", "_law_many", "_law_letters", "_law_words", "_law_way", "_law_turn", "_law_base", "_law_at", "_law_k"]) (sc := defScope s_l_names) (by decide +kernel)) (fun _ _ _ _ _ => (pg_name (i := 8) sc_l_names.nd rfl (Or.inl rfl))) (fun _ _ _ _ _ => pts_nil) (fun _ _ _ _ _ => (pe_op op_add_str (pe_op op_add_str (pe_slice sl_str (pv 6) po_none (po_some (pv 7))) (pe_ix ix_str (pv 2) (pe_op op_modN (pe_op op_add (pv 5) (pe_op op_mul pe_int (pv 8))) pe_int) (fun _ _ => rfl))) (pe_slice sl_str (pv 6) (po_some (pv 7)) po_none)))))))))))))), rd_l_names T vs H Q E h⟩

/-! ### _law_made -/
abbrev s_l_made : Stmt := top 28
noncomputable def m_l_made (way : Int) (thing : V) (other : V) : Option Exn :=
  (if (decide (way < 4)) = true then
  (Option.bind (atI [(("Wrong" : Str), [(("place" : Str), thing)]), (("BadItem" : Str), [(("at" : Str), thing)]), (("NoPlayer" : Str), [(("name" : Str), thing)]), (("Known" : Str), [(("name" : Str), thing)])] way) fun it =>
  some it)
  else (if (decide (way < 8)) = true then
  (Option.bind (atI [(("NoMeeting" : Str), [(("other" : Str), other), (("one" : Str), thing)]), (("Broke" : Str), [(("name" : Str), thing)]), (("Stopped" : Str), [(("done" : Str), other), (("at" : Str), thing)]), (("Over" : Str), [(("name" : Str), thing)])] (way - 4)) fun it1 =>
  some it1)
  else (if (decide (way < 12)) = true then
  (Option.bind (atI [(("Refused" : Str), [(("many" : Str), thing)]), (("Barred" : Str), [(("members" : Str), thing)]), (("Impossible" : Str), [(("at" : Str), thing)]), (("TooMany" : Str), [(("limit" : Str), thing)])] (way - 8)) fun it2 =>
  some it2)
  else (if (decide (way < 15)) = true then
  (Option.bind (atI [(("Unplayable" : Str), ([] : List (Str × V))), (("Unlike" : Str), ([] : List (Str × V))), (("NotLeft" : Str), ([] : List (Str × V)))] (way - 12)) fun it3 =>
  some it3)
  else (Option.bind (atI [(("Nothing" : Str), ([] : List (Str × V))), (("NoText" : Str), ([] : List (Str × V))), (("NoCommand" : Str), ([] : List (Str × V)))] (way - 15)) fun it4 =>
  some it4)))))
def sp_l_made (K : PySem.W.Frag) : Sp := fun vs H Q _ => ∃ (G M : Hp) (way : Int) (v_thing : V) (thing : V) (v_other : V) (other : V) (r : Exn), vs = [(V.int way), v_thing, v_other] ∧ Sta G (M) H ∧ cV.r G v_thing thing ∧ cV.r G v_other other ∧ m_l_made way thing other = some r ∧ Ret Q G (M) (cX K) r
theorem sc_l_made : FnScope ["_law_way", "_law_thing", "_law_other"] ["_law_way", "_law_thing", "_law_other"] (defScope s_l_made) := ⟨rfl, rfl, rfl, by decide +kernel, rfl, by decide +kernel, by decide +kernel⟩
def t_l_made (K : PySem.W.Frag) : TS :=
  (tSeq (tIfS (tTest (tOp (rI0 fun i j => .bl (decide (i < j))) (tVar 0) (tC (.int 4)))) (tRet (tOp (rIxL K) (tLst (tCons (tCB (rNew K "Wrong" ["place"]) (tCons (tVar 1) tNil)) (tCons (tCB (rNew K "BadItem" ["at"]) (tCons (tVar 1) tNil)) (tCons (tCB (rNew K "NoPlayer" ["name"]) (tCons (tVar 1) tNil)) (tCons (tCB (rNew K "Known" ["name"]) (tCons (tVar 1) tNil)) tNil))))) (tVar 0))) tNext)
  (tSeq (tIfS (tTest (tOp (rI0 fun i j => .bl (decide (i < j))) (tVar 0) (tC (.int 8)))) (tRet (tOp (rIxL K) (tLst (tCons (tCB (rNew K "NoMeeting" ["one", "other"]) (tCons (tVar 1) (tCons (tVar 2) tNil))) (tCons (tCB (rNew K "Broke" ["name"]) (tCons (tVar 1) tNil)) (tCons (tCB (rNew K "Stopped" ["at", "done"]) (tCons (tVar 1) (tCons (tVar 2) tNil))) (tCons (tCB (rNew K "Over" ["name"]) (tCons (tVar 1) tNil)) tNil))))) (tOp (rI0 fun i j => .int (i - j)) (tVar 0) (tC (.int 4))))) tNext)
  (tSeq (tIfS (tTest (tOp (rI0 fun i j => .bl (decide (i < j))) (tVar 0) (tC (.int 12)))) (tRet (tOp (rIxL K) (tLst (tCons (tCB (rNew K "Refused" ["many"]) (tCons (tVar 1) tNil)) (tCons (tCB (rNew K "Barred" ["members"]) (tCons (tVar 1) tNil)) (tCons (tCB (rNew K "Impossible" ["at"]) (tCons (tVar 1) tNil)) (tCons (tCB (rNew K "TooMany" ["limit"]) (tCons (tVar 1) tNil)) tNil))))) (tOp (rI0 fun i j => .int (i - j)) (tVar 0) (tC (.int 8))))) tNext)
  (tSeq (tIfS (tTest (tOp (rI0 fun i j => .bl (decide (i < j))) (tVar 0) (tC (.int 15)))) (tRet (tOp (rIxL K) (tLst (tCons (tNew0 K "Unplayable") (tCons (tNew0 K "Unlike") (tCons (tNew0 K "NotLeft") tNil)))) (tOp (rI0 fun i j => .int (i - j)) (tVar 0) (tC (.int 12))))) tNext)
  (tRet (tOp (rIxL K) (tLst (tCons (tNew0 K "Nothing") (tCons (tNew0 K "NoText") (tCons (tNew0 K "NoCommand") tNil)))) (tOp (rI0 fun i j => .int (i - j)) (tVar 0) (tC (.int 15)))))))))
theorem rd_l_made {K : PySem.W.Frag} {mg : Str → Option Value} (T : Tx K mg) (vs : List V) (H : Hp) (Q : VK) (E : XK) (h : sp_l_made K vs H Q E) : t_l_made K { nx := fun _ H' => Q .non H', rt := Q } (start ["_law_way", "_law_thing", "_law_other"] vs) H := by
  obtain ⟨G, M, way, v_thing, thing, v_other, other, r, rfl, S, h_thing, h_other, hm, q⟩ := h
  have E := Le.refl G
  unfold m_l_made at hm
  show t_l_made K _ [some (V.int way), some v_thing, some v_other] H
  refine s_ifL (et_T (ev_lt (ev_var (c := cI) (d := way) rfl rfl) (ev_int (i := 4)))) S (fun hb _ _ e S => ?_) (fun hb _ _ e S => ?_)
  · have hm := ite_T hb hm
    replace E := E.trans e
    replace h_thing := Cod.mono _ e h_thing
    replace h_other := Cod.mono _ e h_other
    obtain ⟨it, eq_it, hm⟩ := bindO hm
    refine s_ret (ev_ixL (ev_frzL (en_lst (ei_cons (ev_new1 (n := "Wrong") (by decide) (ev_var rfl h_thing)) (ei_cons (ev_new1 (n := "BadItem") (by decide) (ev_var rfl h_thing)) (ei_cons (ev_new1 (n := "NoPlayer") (by decide) (ev_var rfl h_thing)) (ei_cons (ev_new1 (n := "Known") (by decide) (ev_var rfl h_thing)) ei_nil)))) (Nat.le_of_ble_eq_true rfl))) (ev_var (c := cI) (d := way) rfl rfl) eq_it) S fun v _ _ e S r => ?_
    cases hm
    exact q v _ _ (E.trans e) S r
  · have hm := ite_F hb hm
    replace E := E.trans e
    replace h_thing := Cod.mono _ e h_thing
    replace h_other := Cod.mono _ e h_other
    refine s_ifL (et_T (ev_lt (ev_var (c := cI) (d := way) rfl rfl) (ev_int (i := 8)))) S (fun hb _ _ e S => ?_) (fun hb _ _ e S => ?_)
    · have hm := ite_T hb hm
      replace E := E.trans e
      replace h_thing := Cod.mono _ e h_thing
      replace h_other := Cod.mono _ e h_other
      obtain ⟨it1, eq_it1, hm⟩ := bindO hm
      refine s_ret (ev_ixL (ev_frzL (en_lst (ei_cons (ev_new2 (n := "NoMeeting") (by decide) (ev_var rfl h_thing) (ev_var rfl h_other)) (ei_cons (ev_new1 (n := "Broke") (by decide) (ev_var rfl h_thing)) (ei_cons (ev_new2 (n := "Stopped") (by decide) (ev_var rfl h_thing) (ev_var rfl h_other)) (ei_cons (ev_new1 (n := "Over") (by decide) (ev_var rfl h_thing)) ei_nil)))) (Nat.le_of_ble_eq_true rfl))) (ev_sub (ev_var (c := cI) (d := way) rfl rfl) (ev_int (i := 4))) eq_it1) S fun v _ _ e S r => ?_
      cases hm
      exact q v _ _ (E.trans e) S r
    · have hm := ite_F hb hm
      replace E := E.trans e
      replace h_thing := Cod.mono _ e h_thing
      refine s_ifL (et_T (ev_lt (ev_var (c := cI) (d := way) rfl rfl) (ev_int (i := 12)))) S (fun hb _ _ e S => ?_) (fun hb _ _ e S => ?_)
      · have hm := ite_T hb hm
        replace E := E.trans e
        replace h_thing := Cod.mono _ e h_thing
        obtain ⟨it2, eq_it2, hm⟩ := bindO hm
        refine s_ret (ev_ixL (ev_frzL (en_lst (ei_cons (ev_new1 (n := "Refused") (by decide) (ev_var rfl h_thing)) (ei_cons (ev_new1 (n := "Barred") (by decide) (ev_var rfl h_thing)) (ei_cons (ev_new1 (n := "Impossible") (by decide) (ev_var rfl h_thing)) (ei_cons (ev_new1 (n := "TooMany") (by decide) (ev_var rfl h_thing)) ei_nil)))) (Nat.le_of_ble_eq_true rfl))) (ev_sub (ev_var (c := cI) (d := way) rfl rfl) (ev_int (i := 8))) eq_it2) S fun v _ _ e S r => ?_
        cases hm
        exact q v _ _ (E.trans e) S r
      · have hm := ite_F hb hm
        replace E := E.trans e
        refine s_ifL (et_T (ev_lt (ev_var (c := cI) (d := way) rfl rfl) (ev_int (i := 15)))) S (fun hb _ _ e S => ?_) (fun hb _ _ e S => ?_)
        · have hm := ite_T hb hm
          replace E := E.trans e
          obtain ⟨it3, eq_it3, hm⟩ := bindO hm
          refine s_ret (ev_ixL (ev_frzL (en_lst (ei_cons (ev_new0 (n := "Unplayable") (by decide)) (ei_cons (ev_new0 (n := "Unlike") (by decide)) (ei_cons (ev_new0 (n := "NotLeft") (by decide)) ei_nil))) (Nat.le_of_ble_eq_true rfl))) (ev_sub (ev_var (c := cI) (d := way) rfl rfl) (ev_int (i := 12))) eq_it3) S fun v _ _ e S r => ?_
          cases hm
          exact q v _ _ (E.trans e) S r
        · have hm := ite_F hb hm
          replace E := E.trans e
          obtain ⟨it4, eq_it4, hm⟩ := bindO hm
          refine s_ret (ev_ixL (ev_frzL (en_lst (ei_cons (ev_new0 (n := "Nothing") (by decide)) (ei_cons (ev_new0 (n := "NoText") (by decide)) (ei_cons (ev_new0 (n := "NoCommand") (by decide)) ei_nil))) (Nat.le_of_ble_eq_true rfl))) (ev_sub (ev_var (c := cI) (d := way) rfl rfl) (ev_int (i := 15))) eq_it4) S fun v _ _ e S r => ?_
          cases hm
          exact q v _ _ (E.trans e) S r
theorem use_l_made {K : PySem.W.Frag} {G M : Hp} {E : XK} {way : Int} {thing : V} {other : V} {r : Exn} (hm : m_l_made way thing other = some r) : ∀ (G1 H1 : Hp) (v0 v1 v2 : V) (Q : VK), Le G G1 → Sta G1 M H1 → cI.r G1 v0 way → cV.r G1 v1 thing → cV.r G1 v2 other → Ret Q G1 (M) (cX K) r → sp_l_made K [v0, v1, v2] H1 Q E := by
  intro G1 H1 v0 v1 v2 Q e S r0 r1 r2 q
  cases r0
  exact ⟨G1, M, _, _, _, _, _, _, rfl, S, r1, r2, hm, q⟩
theorem ok_l_made {P : Program} {w : World} {K : PySem.W.Frag} {mg : Str → Option Value} {base : Heap} (T : Tx K mg) (O_BadItem : OwnX P w K mg base 1 "BadItem" ["at"]) (O_Barred : OwnX P w K mg base 1 "Barred" ["members"]) (O_Broke : OwnX P w K mg base 1 "Broke" ["name"]) (O_Impossible : OwnX P w K mg base 1 "Impossible" ["at"]) (O_Known : OwnX P w K mg base 1 "Known" ["name"]) (O_NoMeeting : OwnX P w K mg base 1 "NoMeeting" ["one", "other"]) (O_NoPlayer : OwnX P w K mg base 1 "NoPlayer" ["name"]) (O_Over : OwnX P w K mg base 1 "Over" ["name"]) (O_Refused : OwnX P w K mg base 1 "Refused" ["many"]) (O_Stopped : OwnX P w K mg base 1 "Stopped" ["at", "done"]) (O_TooMany : OwnX P w K mg base 1 "TooMany" ["limit"]) (O_Wrong : OwnX P w K mg base 1 "Wrong" ["place"]) : Fn P w K mg base CX0 3 "_law_made" ["_law_way", "_law_thing", "_law_other"] (sp_l_made K) :=
  fn_by T.g_l_made T.f_l_made sc_l_made (fun vs H Q E h => by obtain ⟨_, _, _, _, _, _, _, _, e, _⟩ := h; rw [e]; rfl) (fun _ _ _ _ _ _ us hl => match us, hl with | [_, _, _], _ => rfl) fun cdv A outer s H vs Q E hr h => ⟨t_l_made K,
    (pss_cons (ps_if (pt_cmpR op_lt (pv 0) pe_int (nomark _)) (pss_one (ps_ret (pe_ix ix_list (pe_lst (pa_cons (pe_new O_Wrong (hr.mono (by decide)) pass0 (pa_cons (pv 1) pa_nil)) (pa_cons (pe_new O_BadItem (hr.mono (by decide)) pass0 (pa_cons (pv 1) pa_nil)) (pa_cons (pe_new O_NoPlayer (hr.mono (by decide)) pass0 (pa_cons (pv 1) pa_nil)) (pa_cons (pe_new O_Known (hr.mono (by decide)) pass0 (pa_cons (pv 1) pa_nil)) pa_nil))))) (pv 0) (fun _ _ => rfl)))) pss_nil)
    (pss_cons (ps_if (pt_cmpR op_lt (pv 0) pe_int (nomark _)) (pss_one (ps_ret (pe_ix ix_list (pe_lst (pa_cons (pe_new O_NoMeeting (hr.mono (by decide)) pass0 (pa_cons (pv 1) (pa_cons (pv 2) pa_nil))) (pa_cons (pe_new O_Broke (hr.mono (by decide)) pass0 (pa_cons (pv 1) pa_nil)) (pa_cons (pe_new O_Stopped (hr.mono (by decide)) pass0 (pa_cons (pv 1) (pa_cons (pv 2) pa_nil))) (pa_cons (pe_new O_Over (hr.mono (by decide)) pass0 (pa_cons (pv 1) pa_nil)) pa_nil))))) (pe_op op_sub (pv 0) pe_int) (fun _ _ => rfl)))) pss_nil)
    (pss_cons (ps_if (pt_cmpR op_lt (pv 0) pe_int (nomark _)) (pss_one (ps_ret (pe_ix ix_list (pe_lst (pa_cons (pe_new O_Refused (hr.mono (by decide)) pass0 (pa_cons (pv 1) pa_nil)) (pa_cons (pe_new O_Barred (hr.mono (by decide)) pass0 (pa_cons (pv 1) pa_nil)) (pa_cons (pe_new O_Impossible (hr.mono (by decide)) pass0 (pa_cons (pv 1) pa_nil)) (pa_cons (pe_new O_TooMany (hr.mono (by decide)) pass0 (pa_cons (pv 1) pa_nil)) pa_nil))))) (pe_op op_sub (pv 0) pe_int) (fun _ _ => rfl)))) pss_nil)
    (pss_cons (ps_if (pt_cmpR op_lt (pv 0) pe_int (nomark _)) (pss_one (ps_ret (pe_ix ix_list (pe_lst (pa_cons (pe_exc0 F.excBase_ValueError T.xi_Unplayable T.g_Unplayable T.k_Unplayable rfl) (pa_cons (pe_exc0 F.excBase_ValueError T.xi_Unlike T.g_Unlike T.k_Unlike rfl) (pa_cons (pe_exc0 F.excBase_ValueError T.xi_NotLeft T.g_NotLeft T.k_NotLeft rfl) pa_nil)))) (pe_op op_sub (pv 0) pe_int) (fun _ _ => rfl)))) pss_nil)
    (pss_one (ps_ret (pe_ix ix_list (pe_lst (pa_cons (pe_exc0 F.excBase_ValueError T.xi_Nothing T.g_Nothing T.k_Nothing rfl) (pa_cons (pe_exc0 F.excBase_ValueError T.xi_NoText T.g_NoText T.k_NoText rfl) (pa_cons (pe_exc0 F.excBase_ValueError T.xi_NoCommand T.g_NoCommand T.k_NoCommand rfl) pa_nil)))) (pe_op op_sub (pv 0) pe_int) (fun _ _ => rfl)))))))), rd_l_made T vs H Q E h⟩

/-! ### _law_flags -/
abbrev s_l_flags : Stmt := top 29
noncomputable def m_l_flags (e0 : Exn) : Option (List Int) :=
  (Option.bind (catL [(isXB e0.1 "Wrong"), (isXB e0.1 "BadItem"), (isXB e0.1 "NoPlayer"), (isXB e0.1 "Known")] [(isXB e0.1 "NoMeeting"), (isXB e0.1 "Broke"), (isXB e0.1 "Stopped"), (isXB e0.1 "Over")]) fun ct =>
  (Option.bind (catL ct [(isXB e0.1 "Refused"), (isXB e0.1 "Barred"), (isXB e0.1 "Impossible"), (isXB e0.1 "TooMany")]) fun ct1 =>
  (Option.bind (catL ct1 [(isXB e0.1 "Unplayable"), (isXB e0.1 "Unlike"), (isXB e0.1 "NotLeft"), (isXB e0.1 "Nothing")]) fun ct2 =>
  (Option.bind (catL ct2 [(isXB e0.1 "NoText"), (isXB e0.1 "NoCommand")]) fun ct3 =>
  (Option.bind (rangeB 18) fun ra =>
  (Option.bind (lcP (fun (x0 : Int) => (Option.bind (atI ct3 x0) fun it =>
  (if it = true then some (some x0) else some none))) ra) fun lc =>
  some lc))))))
def sp_l_flags (K : PySem.W.Frag) : Sp := fun vs H Q _ => ∃ (G M : Hp) (v_e0 : V) (e0 : Exn) (r : (List Int)), vs = [v_e0] ∧ Sta G (M) H ∧ (cX K).r G v_e0 e0 ∧ m_l_flags e0 = some r ∧ Ret Q G (M) (cL cI) r
theorem sc_l_flags : FnScope ["_law_e", "_law_some", "_law_k"] ["_law_e"] (defScope s_l_flags) := ⟨rfl, rfl, rfl, by decide +kernel, rfl, by decide +kernel, by decide +kernel⟩
def t_l_flags (K : PySem.W.Frag) : TS :=
  (tSeq (tAsg (tLst (tCons (tCB (rIsX K) (tCons (tVar 0) (tCons (tC (.ref (He.ga K "Wrong"))) tNil))) (tCons (tCB (rIsX K) (tCons (tVar 0) (tCons (tC (.ref (He.ga K "BadItem"))) tNil))) (tCons (tCB (rIsX K) (tCons (tVar 0) (tCons (tC (.ref (He.ga K "NoPlayer"))) tNil))) (tCons (tCB (rIsX K) (tCons (tVar 0) (tCons (tC (.ref (He.ga K "Known"))) tNil))) tNil))))) (gName 1))
  (tSeq (tAsg (tOp rCat (tVar 1) (tLst (tCons (tCB (rIsX K) (tCons (tVar 0) (tCons (tC (.ref (He.ga K "NoMeeting"))) tNil))) (tCons (tCB (rIsX K) (tCons (tVar 0) (tCons (tC (.ref (He.ga K "Broke"))) tNil))) (tCons (tCB (rIsX K) (tCons (tVar 0) (tCons (tC (.ref (He.ga K "Stopped"))) tNil))) (tCons (tCB (rIsX K) (tCons (tVar 0) (tCons (tC (.ref (He.ga K "Over"))) tNil))) tNil)))))) (gName 1))
  (tSeq (tAsg (tOp rCat (tVar 1) (tLst (tCons (tCB (rIsX K) (tCons (tVar 0) (tCons (tC (.ref (He.ga K "Refused"))) tNil))) (tCons (tCB (rIsX K) (tCons (tVar 0) (tCons (tC (.ref (He.ga K "Barred"))) tNil))) (tCons (tCB (rIsX K) (tCons (tVar 0) (tCons (tC (.ref (He.ga K "Impossible"))) tNil))) (tCons (tCB (rIsX K) (tCons (tVar 0) (tCons (tC (.ref (He.ga K "TooMany"))) tNil))) tNil)))))) (gName 1))
  (tSeq (tAsg (tOp rCat (tVar 1) (tLst (tCons (tCB (rIsX K) (tCons (tVar 0) (tCons (tC (.ref (He.ga K "Unplayable"))) tNil))) (tCons (tCB (rIsX K) (tCons (tVar 0) (tCons (tC (.ref (He.ga K "Unlike"))) tNil))) (tCons (tCB (rIsX K) (tCons (tVar 0) (tCons (tC (.ref (He.ga K "NotLeft"))) tNil))) (tCons (tCB (rIsX K) (tCons (tVar 0) (tCons (tC (.ref (He.ga K "Nothing"))) tNil))) tNil)))))) (gName 1))
  (tSeq (tAsg (tOp rCat (tVar 1) (tLst (tCons (tCB (rIsX K) (tCons (tVar 0) (tCons (tC (.ref (He.ga K "NoText"))) tNil))) (tCons (tCB (rIsX K) (tCons (tVar 0) (tCons (tC (.ref (He.ga K "NoCommand"))) tNil))) tNil)))) (gName 1))
  (tRet (tLc (iRng1 (tCons (tC (.int 18)) tNil)) (gName 2) (tB (tOp (rIxL K) (tVar 1) (tVar 2))) (tVar 2) [2])))))))
theorem rd_l_flags {K : PySem.W.Frag} {mg : Str → Option Value} (T : Tx K mg) (vs : List V) (H : Hp) (Q : VK) (E : XK) (h : sp_l_flags K vs H Q E) : t_l_flags K { nx := fun _ H' => Q .non H', rt := Q } (start ["_law_e", "_law_some", "_law_k"] vs) H := by
  obtain ⟨G, M, v_e0, e0, r, rfl, S, h_e0, hm, q⟩ := h
  have E := Le.refl G
  unfold m_l_flags at hm
  show t_l_flags K _ [some v_e0, none, none] H
  refine s_asgS (ev_frzL (en_lst (ei_cons (ev_isX T.xk (c := "Wrong") (by decide) (ev_var rfl h_e0)) (ei_cons (ev_isX T.xk (c := "BadItem") (by decide) (ev_var rfl h_e0)) (ei_cons (ev_isX T.xk (c := "NoPlayer") (by decide) (ev_var rfl h_e0)) (ei_cons (ev_isX T.xk (c := "Known") (by decide) (ev_var rfl h_e0)) ei_nil)))) (Nat.le_of_ble_eq_true rfl))) S fun v_some _ _ e S h_some => ?_
  replace E := E.trans e
  replace h_e0 := Cod.mono _ e h_e0
  obtain ⟨ct, eq_ct, hm⟩ := bindO hm
  refine s_asgS (ev_frzL (en_cat (ev_var rfl h_some) (ev_frzL (en_lst (ei_cons (ev_isX T.xk (c := "NoMeeting") (by decide) (ev_var rfl h_e0)) (ei_cons (ev_isX T.xk (c := "Broke") (by decide) (ev_var rfl h_e0)) (ei_cons (ev_isX T.xk (c := "Stopped") (by decide) (ev_var rfl h_e0)) (ei_cons (ev_isX T.xk (c := "Over") (by decide) (ev_var rfl h_e0)) ei_nil)))) (Nat.le_of_ble_eq_true rfl))) eq_ct)) S fun v_some1 _ _ e S h_some1 => ?_
  replace E := E.trans e
  replace h_e0 := Cod.mono _ e h_e0
  replace h_some := Cod.mono _ e h_some
  obtain ⟨ct1, eq_ct1, hm⟩ := bindO hm
  refine s_asgS (ev_frzL (en_cat (ev_var rfl h_some1) (ev_frzL (en_lst (ei_cons (ev_isX T.xk (c := "Refused") (by decide) (ev_var rfl h_e0)) (ei_cons (ev_isX T.xk (c := "Barred") (by decide) (ev_var rfl h_e0)) (ei_cons (ev_isX T.xk (c := "Impossible") (by decide) (ev_var rfl h_e0)) (ei_cons (ev_isX T.xk (c := "TooMany") (by decide) (ev_var rfl h_e0)) ei_nil)))) (Nat.le_of_ble_eq_true rfl))) eq_ct1)) S fun v_some2 _ _ e S h_some2 => ?_
  replace E := E.trans e
  replace h_e0 := Cod.mono _ e h_e0
  replace h_some1 := Cod.mono _ e h_some1
  obtain ⟨ct2, eq_ct2, hm⟩ := bindO hm
  refine s_asgS (ev_frzL (en_cat (ev_var rfl h_some2) (ev_frzL (en_lst (ei_cons (ev_isX T.xk (c := "Unplayable") (by decide) (ev_var rfl h_e0)) (ei_cons (ev_isX T.xk (c := "Unlike") (by decide) (ev_var rfl h_e0)) (ei_cons (ev_isX T.xk (c := "NotLeft") (by decide) (ev_var rfl h_e0)) (ei_cons (ev_isX T.xk (c := "Nothing") (by decide) (ev_var rfl h_e0)) ei_nil)))) (Nat.le_of_ble_eq_true rfl))) eq_ct2)) S fun v_some3 _ _ e S h_some3 => ?_
  replace E := E.trans e
  replace h_e0 := Cod.mono _ e h_e0
  replace h_some2 := Cod.mono _ e h_some2
  obtain ⟨ct3, eq_ct3, hm⟩ := bindO hm
  refine s_asgS (ev_frzL (en_cat (ev_var rfl h_some3) (ev_frzL (en_lst (ei_cons (ev_isX T.xk (c := "NoText") (by decide) (ev_var rfl h_e0)) (ei_cons (ev_isX T.xk (c := "NoCommand") (by decide) (ev_var rfl h_e0)) ei_nil)) (Nat.le_of_ble_eq_true rfl))) eq_ct3)) S fun v_some4 _ _ e S h_some4 => ?_
  replace E := E.trans e
  replace h_some3 := Cod.mono _ e h_some3
  obtain ⟨ra, eq_ra, hm⟩ := bindO hm
  obtain ⟨lc, eq_lc, hm⟩ := bindO hm
  refine s_ret (ev_frzL (en_lc (f := (fun (x0 : Int) => (Option.bind (atI ct3 x0) fun it =>
  (if it = true then some (some x0) else some none)))) (ew_range1B (ev_int (i := 18)) eq_ra) eq_lc (by
        intro x0 x G1 H1 ob hmem e1 l1 r1 hm
        have h_some4 := Cod.mono _ e1 h_some4
        cases r1
        obtain ⟨it, eq_it, hm⟩ := bindO hm
        refine ⟨rfl, rfl, fun Mo sM => ⟨_, (et_B (ev_ixL (ev_var rfl h_some4) (ev_var (c := cI) (d := x0) rfl rfl) eq_it)), fun hb => ?_, fun hb => ?_⟩⟩
        · have hm := ite_T hb hm
          cases hm
          exact ⟨_, rfl, (ev_var (c := cI) (d := x0) rfl rfl)⟩
        · have hm := ite_F hb hm
          cases hm
          rfl) (fun x H1 P P' => gm_name x _ H1 P P'))) S fun v _ _ e S r => ?_
  cases hm
  exact q v _ _ (E.trans e) S r
theorem use_l_flags {K : PySem.W.Frag} {G M : Hp} {E : XK} {e0 : Exn} {r : (List Int)} (hm : m_l_flags e0 = some r) : ∀ (G1 H1 : Hp) (v0 : V) (Q : VK), Le G G1 → Sta G1 M H1 → (cX K).r G1 v0 e0 → Ret Q G1 (M) (cL cI) r → sp_l_flags K [v0] H1 Q E := by
  intro G1 H1 v0 Q e S r0 q
  exact ⟨G1, M, _, _, _, rfl, S, r0, hm, q⟩
theorem ok_l_flags {P : Program} {w : World} {K : PySem.W.Frag} {mg : Str → Option Value} {base : Heap} (T : Tx K mg) : Fn P w K mg base CX0 1 "_law_flags" ["_law_e"] (sp_l_flags K) :=
  fn_by T.g_l_flags T.f_l_flags sc_l_flags (fun vs H Q E h => by obtain ⟨_, _, _, _, _, e, _⟩ := h; rw [e]; rfl) (fun _ _ _ _ _ _ us hl => match us, hl with | [_], _ => rfl) fun cdv A outer s H vs Q E hr h => ⟨t_l_flags K,
    (pss_cons (ps_set (i := 1) sc_l_flags.nd rfl (Or.inr rfl) (pe_lst (pa_cons (pe_callB call_isX (by rfl) T.b_isinstance (by decide +kernel) (pa_cons (pv 0) (pa_cons (pe_glob rfl T.g_Wrong rfl) pa_nil))) (pa_cons (pe_callB call_isX (by rfl) T.b_isinstance (by decide +kernel) (pa_cons (pv 0) (pa_cons (pe_glob rfl T.g_BadItem rfl) pa_nil))) (pa_cons (pe_callB call_isX (by rfl) T.b_isinstance (by decide +kernel) (pa_cons (pv 0) (pa_cons (pe_glob rfl T.g_NoPlayer rfl) pa_nil))) (pa_cons (pe_callB call_isX (by rfl) T.b_isinstance (by decide +kernel) (pa_cons (pv 0) (pa_cons (pe_glob rfl T.g_Known rfl) pa_nil))) pa_nil))))))
    (pss_cons (ps_set (i := 1) sc_l_flags.nd rfl (Or.inr rfl) (pe_op op_cat (pv 1) (pe_lst (pa_cons (pe_callB call_isX (by rfl) T.b_isinstance (by decide +kernel) (pa_cons (pv 0) (pa_cons (pe_glob rfl T.g_NoMeeting rfl) pa_nil))) (pa_cons (pe_callB call_isX (by rfl) T.b_isinstance (by decide +kernel) (pa_cons (pv 0) (pa_cons (pe_glob rfl T.g_Broke rfl) pa_nil))) (pa_cons (pe_callB call_isX (by rfl) T.b_isinstance (by decide +kernel) (pa_cons (pv 0) (pa_cons (pe_glob rfl T.g_Stopped rfl) pa_nil))) (pa_cons (pe_callB call_isX (by rfl) T.b_isinstance (by decide +kernel) (pa_cons (pv 0) (pa_cons (pe_glob rfl T.g_Over rfl) pa_nil))) pa_nil)))))))
    (pss_cons (ps_set (i := 1) sc_l_flags.nd rfl (Or.inr rfl) (pe_op op_cat (pv 1) (pe_lst (pa_cons (pe_callB call_isX (by rfl) T.b_isinstance (by decide +kernel) (pa_cons (pv 0) (pa_cons (pe_glob rfl T.g_Refused rfl) pa_nil))) (pa_cons (pe_callB call_isX (by rfl) T.b_isinstance (by decide +kernel) (pa_cons (pv 0) (pa_cons (pe_glob rfl T.g_Barred rfl) pa_nil))) (pa_cons (pe_callB call_isX (by rfl) T.b_isinstance (by decide +kernel) (pa_cons (pv 0) (pa_cons (pe_glob rfl T.g_Impossible rfl) pa_nil))) (pa_cons (pe_callB call_isX (by rfl) T.b_isinstance (by decide +kernel) (pa_cons (pv 0) (pa_cons (pe_glob rfl T.g_TooMany rfl) pa_nil))) pa_nil)))))))
    (pss_cons (ps_set (i := 1) sc_l_flags.nd rfl (Or.inr rfl) (pe_op op_cat (pv 1) (pe_lst (pa_cons (pe_callB call_isX (by rfl) T.b_isinstance (by decide +kernel) (pa_cons (pv 0) (pa_cons (pe_glob rfl T.g_Unplayable rfl) pa_nil))) (pa_cons (pe_callB call_isX (by rfl) T.b_isinstance (by decide +kernel) (pa_cons (pv 0) (pa_cons (pe_glob rfl T.g_Unlike rfl) pa_nil))) (pa_cons (pe_callB call_isX (by rfl) T.b_isinstance (by decide +kernel) (pa_cons (pv 0) (pa_cons (pe_glob rfl T.g_NotLeft rfl) pa_nil))) (pa_cons (pe_callB call_isX (by rfl) T.b_isinstance (by decide +kernel) (pa_cons (pv 0) (pa_cons (pe_glob rfl T.g_Nothing rfl) pa_nil))) pa_nil)))))))
    (pss_cons (ps_set (i := 1) sc_l_flags.nd rfl (Or.inr rfl) (pe_op op_cat (pv 1) (pe_lst (pa_cons (pe_callB call_isX (by rfl) T.b_isinstance (by decide +kernel) (pa_cons (pv 0) (pa_cons (pe_glob rfl T.g_NoText rfl) pa_nil))) (pa_cons (pe_callB call_isX (by rfl) T.b_isinstance (by decide +kernel) (pa_cons (pv 0) (pa_cons (pe_glob rfl T.g_NoCommand rfl) pa_nil))) pa_nil)))))
    (pss_one (ps_ret (pe_lc (own := [("_law_k", 2)]) rfl sc_l_flags.nd (pi_range1 rfl T.b_range (pa_cons pe_int pa_nil)) (blkOk_by (own := [("_law_k", 2)]) (N := ["_law_e", "_law_some", "_law_k"]) (sc := defScope s_l_flags) (by decide +kernel)) (fun _ _ _ _ _ => (pg_name (i := 2) sc_l_flags.nd rfl (Or.inl rfl))) (fun _ _ _ _ _ => pts_one (pt_val (pe_ix ix_list (pv 1) (pv 2) (fun _ _ => rfl)))) (fun _ _ _ _ _ => (pv 2)))))))))), rd_l_flags T vs H Q E h⟩

/-! ### _law_fields -/
abbrev s_l_fields : Stmt := top 30
noncomputable def m_l_fields (way : Int) (e0 : Exn) : Option (List V) :=
  (if (decide (way ∈ [1, 10])) = true then
  (Option.bind (fieldP e0 "at") fun fi =>
  some [fi])
  else (if (decide (way ∈ [2, 3, 5, 7])) = true then
  (Option.bind (fieldP e0 "name") fun fi1 =>
  some [fi1])
  else (if (decide (way = 4)) = true then
  (Option.bind (fieldP e0 "one") fun fi2 =>
  (Option.bind (fieldP e0 "other") fun fi3 =>
  some [fi2, fi3]))
  else (if (decide (way = 6)) = true then
  (Option.bind (fieldP e0 "at") fun fi4 =>
  (Option.bind (fieldP e0 "done") fun fi5 =>
  some [fi4, fi5]))
  else (if (decide (way = 0)) = true then
  (Option.bind (fieldP e0 "place") fun fi6 =>
  some [fi6])
  else (if (decide (way = 8)) = true then
  (Option.bind (fieldP e0 "many") fun fi7 =>
  some [fi7])
  else (if (decide (way = 9)) = true then
  (Option.bind (fieldP e0 "members") fun fi8 =>
  some [fi8])
  else (Option.bind (if (decide (way = 11)) = true then
  (Option.bind (fieldP e0 "limit") fun fi9 =>
  some [fi9])
  else some ([] : List V)) fun ie =>
  some ie))))))))
def sp_l_fields (K : PySem.W.Frag) : Sp := fun vs H Q _ => ∃ (G M : Hp) (way : Int) (v_e0 : V) (e0 : Exn) (r : (List V)), vs = [(V.int way), v_e0] ∧ Sta G (M) H ∧ (cX K).r G v_e0 e0 ∧ m_l_fields way e0 = some r ∧ Ret Q G (M) (cL cV) r
theorem sc_l_fields : FnScope ["_law_way", "_law_e"] ["_law_way", "_law_e"] (defScope s_l_fields) := ⟨rfl, rfl, rfl, by decide +kernel, rfl, by decide +kernel, by decide +kernel⟩
def t_l_fields (K : PySem.W.Frag) : TS :=
  (tSeq (tIfS (tTest (tOp (rIn K false) (tVar 0) (tTup (tCons (tC (.int 1)) (tCons (tC (.int 10)) tNil))))) (tRet (tLst (tCons (tXv K "at" (tVar 1)) tNil))) tNext)
  (tSeq (tIfS (tTest (tOp (rIn K false) (tVar 0) (tTup (tCons (tC (.int 2)) (tCons (tC (.int 3)) (tCons (tC (.int 5)) (tCons (tC (.int 7)) tNil))))))) (tRet (tLst (tCons (tXv K "name" (tVar 1)) tNil))) tNext)
  (tSeq (tIfS (tTest (tOp rEq (tVar 0) (tC (.int 4)))) (tRet (tLst (tCons (tXv K "one" (tVar 1)) (tCons (tXv K "other" (tVar 1)) tNil)))) tNext)
  (tSeq (tIfS (tTest (tOp rEq (tVar 0) (tC (.int 6)))) (tRet (tLst (tCons (tXv K "at" (tVar 1)) (tCons (tXv K "done" (tVar 1)) tNil)))) tNext)
  (tSeq (tIfS (tTest (tOp rEq (tVar 0) (tC (.int 0)))) (tRet (tLst (tCons (tXv K "place" (tVar 1)) tNil))) tNext)
  (tSeq (tIfS (tTest (tOp rEq (tVar 0) (tC (.int 8)))) (tRet (tLst (tCons (tXv K "many" (tVar 1)) tNil))) tNext)
  (tSeq (tIfS (tTest (tOp rEq (tVar 0) (tC (.int 9)))) (tRet (tLst (tCons (tXv K "members" (tVar 1)) tNil))) tNext)
  (tRet (tIf (tTest (tOp rEq (tVar 0) (tC (.int 11)))) (tLst (tCons (tXv K "limit" (tVar 1)) tNil)) (tLst tNil))))))))))
theorem rd_l_fields {K : PySem.W.Frag} {mg : Str → Option Value} (T : Tx K mg) (vs : List V) (H : Hp) (Q : VK) (E : XK) (h : sp_l_fields K vs H Q E) : t_l_fields K { nx := fun _ H' => Q .non H', rt := Q } (start ["_law_way", "_law_e"] vs) H := by
  obtain ⟨G, M, way, v_e0, e0, r, rfl, S, h_e0, hm, q⟩ := h
  have E := Le.refl G
  unfold m_l_fields at hm
  show t_l_fields K _ [some (V.int way), some v_e0] H
  refine s_ifL (et_T (ev_isinT (ev_var (c := cI) (d := way) rfl rfl) (ev_tups (ei_cons (ev_int (i := 1)) (ei_cons (ev_int (i := 10)) ei_nil)) (by decide)))) S (fun hb _ _ e S => ?_) (fun hb _ _ e S => ?_)
  · have hm := ite_T hb hm
    replace E := E.trans e
    replace h_e0 := Cod.mono _ e h_e0
    obtain ⟨fi, eq_fi, hm⟩ := bindO hm
    refine s_ret (ev_frzL (en_lst (ei_cons (ev_xv T.xk (by decide) (ev_var rfl h_e0) eq_fi) ei_nil) (Nat.le_of_ble_eq_true rfl))) S fun v _ _ e S r => ?_
    cases hm
    exact q v _ _ (E.trans e) S r
  · have hm := ite_F hb hm
    replace E := E.trans e
    replace h_e0 := Cod.mono _ e h_e0
    refine s_ifL (et_T (ev_isinT (ev_var (c := cI) (d := way) rfl rfl) (ev_tups (ei_cons (ev_int (i := 2)) (ei_cons (ev_int (i := 3)) (ei_cons (ev_int (i := 5)) (ei_cons (ev_int (i := 7)) ei_nil)))) (by decide)))) S (fun hb _ _ e S => ?_) (fun hb _ _ e S => ?_)
    · have hm := ite_T hb hm
      replace E := E.trans e
      replace h_e0 := Cod.mono _ e h_e0
      obtain ⟨fi1, eq_fi1, hm⟩ := bindO hm
      refine s_ret (ev_frzL (en_lst (ei_cons (ev_xv T.xk (by decide) (ev_var rfl h_e0) eq_fi1) ei_nil) (Nat.le_of_ble_eq_true rfl))) S fun v _ _ e S r => ?_
      cases hm
      exact q v _ _ (E.trans e) S r
    · have hm := ite_F hb hm
      replace E := E.trans e
      replace h_e0 := Cod.mono _ e h_e0
      refine s_ifL (et_T (ev_eq (ev_var (c := cI) (d := way) rfl rfl) (ev_int (i := 4)))) S (fun hb _ _ e S => ?_) (fun hb _ _ e S => ?_)
      · have hm := ite_T hb hm
        replace E := E.trans e
        replace h_e0 := Cod.mono _ e h_e0
        obtain ⟨fi2, eq_fi2, hm⟩ := bindO hm
        obtain ⟨fi3, eq_fi3, hm⟩ := bindO hm
        refine s_ret (ev_frzL (en_lst (ei_cons (ev_xv T.xk (by decide) (ev_var rfl h_e0) eq_fi2) (ei_cons (ev_xv T.xk (by decide) (ev_var rfl h_e0) eq_fi3) ei_nil)) (Nat.le_of_ble_eq_true rfl))) S fun v _ _ e S r => ?_
        cases hm
        exact q v _ _ (E.trans e) S r
      · have hm := ite_F hb hm
        replace E := E.trans e
        replace h_e0 := Cod.mono _ e h_e0
        refine s_ifL (et_T (ev_eq (ev_var (c := cI) (d := way) rfl rfl) (ev_int (i := 6)))) S (fun hb _ _ e S => ?_) (fun hb _ _ e S => ?_)
        · have hm := ite_T hb hm
          replace E := E.trans e
          replace h_e0 := Cod.mono _ e h_e0
          obtain ⟨fi4, eq_fi4, hm⟩ := bindO hm
          obtain ⟨fi5, eq_fi5, hm⟩ := bindO hm
          refine s_ret (ev_frzL (en_lst (ei_cons (ev_xv T.xk (by decide) (ev_var rfl h_e0) eq_fi4) (ei_cons (ev_xv T.xk (by decide) (ev_var rfl h_e0) eq_fi5) ei_nil)) (Nat.le_of_ble_eq_true rfl))) S fun v _ _ e S r => ?_
          cases hm
          exact q v _ _ (E.trans e) S r
        · have hm := ite_F hb hm
          replace E := E.trans e
          replace h_e0 := Cod.mono _ e h_e0
          refine s_ifL (et_T (ev_eq (ev_var (c := cI) (d := way) rfl rfl) (ev_int (i := 0)))) S (fun hb _ _ e S => ?_) (fun hb _ _ e S => ?_)
          · have hm := ite_T hb hm
            replace E := E.trans e
            replace h_e0 := Cod.mono _ e h_e0
            obtain ⟨fi6, eq_fi6, hm⟩ := bindO hm
            refine s_ret (ev_frzL (en_lst (ei_cons (ev_xv T.xk (by decide) (ev_var rfl h_e0) eq_fi6) ei_nil) (Nat.le_of_ble_eq_true rfl))) S fun v _ _ e S r => ?_
            cases hm
            exact q v _ _ (E.trans e) S r
          · have hm := ite_F hb hm
            replace E := E.trans e
            replace h_e0 := Cod.mono _ e h_e0
            refine s_ifL (et_T (ev_eq (ev_var (c := cI) (d := way) rfl rfl) (ev_int (i := 8)))) S (fun hb _ _ e S => ?_) (fun hb _ _ e S => ?_)
            · have hm := ite_T hb hm
              replace E := E.trans e
              replace h_e0 := Cod.mono _ e h_e0
              obtain ⟨fi7, eq_fi7, hm⟩ := bindO hm
              refine s_ret (ev_frzL (en_lst (ei_cons (ev_xv T.xk (by decide) (ev_var rfl h_e0) eq_fi7) ei_nil) (Nat.le_of_ble_eq_true rfl))) S fun v _ _ e S r => ?_
              cases hm
              exact q v _ _ (E.trans e) S r
            · have hm := ite_F hb hm
              replace E := E.trans e
              replace h_e0 := Cod.mono _ e h_e0
              refine s_ifL (et_T (ev_eq (ev_var (c := cI) (d := way) rfl rfl) (ev_int (i := 9)))) S (fun hb _ _ e S => ?_) (fun hb _ _ e S => ?_)
              · have hm := ite_T hb hm
                replace E := E.trans e
                replace h_e0 := Cod.mono _ e h_e0
                obtain ⟨fi8, eq_fi8, hm⟩ := bindO hm
                refine s_ret (ev_frzL (en_lst (ei_cons (ev_xv T.xk (by decide) (ev_var rfl h_e0) eq_fi8) ei_nil) (Nat.le_of_ble_eq_true rfl))) S fun v _ _ e S r => ?_
                cases hm
                exact q v _ _ (E.trans e) S r
              · have hm := ite_F hb hm
                replace E := E.trans e
                replace h_e0 := Cod.mono _ e h_e0
                obtain ⟨ie, eq_ie, hm⟩ := bindO hm
                refine s_ret (ev_if (c := (cL cV)) (d := ie) (et_T (ev_eq (ev_var (c := cI) (d := way) rfl rfl) (ev_int (i := 11)))) (fun hb => by have hm := ite_T hb eq_ie; obtain ⟨fi9, eq_fi9, hm⟩ := bindO hm; cases hm; exact (ev_frzL (en_lst (ei_cons (ev_xv T.xk (by decide) (ev_var rfl h_e0) eq_fi9) ei_nil) (Nat.le_of_ble_eq_true rfl)))) (fun hb => by have hm := ite_F hb eq_ie; cases hm; exact (ev_frzL (en_lst (ei_nil (c := cV)) (Nat.le_of_ble_eq_true rfl))))) S fun v _ _ e S r => ?_
                cases hm
                exact q v _ _ (E.trans e) S r
theorem use_l_fields {K : PySem.W.Frag} {G M : Hp} {E : XK} {way : Int} {e0 : Exn} {r : (List V)} (hm : m_l_fields way e0 = some r) : ∀ (G1 H1 : Hp) (v0 v1 : V) (Q : VK), Le G G1 → Sta G1 M H1 → cI.r G1 v0 way → (cX K).r G1 v1 e0 → Ret Q G1 (M) (cL cV) r → sp_l_fields K [v0, v1] H1 Q E := by
  intro G1 H1 v0 v1 Q e S r0 r1 q
  cases r0
  exact ⟨G1, M, _, _, _, _, rfl, S, r1, hm, q⟩
theorem ok_l_fields {P : Program} {w : World} {K : PySem.W.Frag} {mg : Str → Option Value} {base : Heap} (T : Tx K mg) : Fn P w K mg base CX0 1 "_law_fields" ["_law_way", "_law_e"] (sp_l_fields K) :=
  fn_by T.g_l_fields T.f_l_fields sc_l_fields (fun vs H Q E h => by obtain ⟨_, _, _, _, _, _, e, _⟩ := h; rw [e]; rfl) (fun _ _ _ _ _ _ us hl => match us, hl with | [_, _], _ => rfl) fun cdv A outer s H vs Q E hr h => ⟨t_l_fields K,
    (pss_cons (ps_if (pt_cmpR op_in_seq (pv 0) (pe_tup (pa_cons pe_int (pa_cons pe_int pa_nil))) rfl) (pss_one (ps_ret (pe_lst (pa_cons (pe_xv (pv 1)) pa_nil)))) pss_nil)
    (pss_cons (ps_if (pt_cmpR op_in_seq (pv 0) (pe_tup (pa_cons pe_int (pa_cons pe_int (pa_cons pe_int (pa_cons pe_int pa_nil))))) rfl) (pss_one (ps_ret (pe_lst (pa_cons (pe_xv (pv 1)) pa_nil)))) pss_nil)
    (pss_cons (ps_if (pt_cmpR op_eq (pv 0) pe_int (nomark _)) (pss_one (ps_ret (pe_lst (pa_cons (pe_xv (pv 1)) (pa_cons (pe_xv (pv 1)) pa_nil))))) pss_nil)
    (pss_cons (ps_if (pt_cmpR op_eq (pv 0) pe_int (nomark _)) (pss_one (ps_ret (pe_lst (pa_cons (pe_xv (pv 1)) (pa_cons (pe_xv (pv 1)) pa_nil))))) pss_nil)
    (pss_cons (ps_if (pt_cmpR op_eq (pv 0) pe_int (nomark _)) (pss_one (ps_ret (pe_lst (pa_cons (pe_xv (pv 1)) pa_nil)))) pss_nil)
    (pss_cons (ps_if (pt_cmpR op_eq (pv 0) pe_int (nomark _)) (pss_one (ps_ret (pe_lst (pa_cons (pe_xv (pv 1)) pa_nil)))) pss_nil)
    (pss_cons (ps_if (pt_cmpR op_eq (pv 0) pe_int (nomark _)) (pss_one (ps_ret (pe_lst (pa_cons (pe_xv (pv 1)) pa_nil)))) pss_nil)
    (pss_one (ps_ret (pe_ifExp (pt_cmpR op_eq (pv 0) pe_int (nomark _)) (pe_lst (pa_cons (pe_xv (pv 1)) pa_nil)) (pe_lst pa_nil))))))))))), rd_l_fields T vs H Q E h⟩

abbrev s_l_alike : Stmt := top 25
theorem sc_l_alike : FnScope ["_law_found", "_law_due"] ["_law_found", "_law_due"] (defScope s_l_alike) := ⟨rfl, rfl, rfl, by decide +kernel, rfl, by decide +kernel, by decide +kernel⟩

abbrev s_l_right : Stmt := top 31
theorem sc_l_right : FnScope ["_law_way", "_law_thing", "_law_other", "_law_e", "_law_one", "_law_due"] ["_law_way", "_law_thing", "_law_other"] (defScope s_l_right) := ⟨rfl, rfl, rfl, by decide +kernel, rfl, by decide +kernel, by decide +kernel⟩

abbrev s_l_value : Stmt := top 27
theorem sc_l_value : FnScope ["_law_hand_here", "_law_some"] ["_law_hand_here"] (defScope s_l_value) := ⟨rfl, rfl, rfl, by decide +kernel, rfl, by decide +kernel, by decide +kernel⟩

abbrev s_l_hand : Stmt := top 21
theorem sc_l_hand : FnScope ["_law_script"] ["_law_script"] (defScope s_l_hand) := ⟨rfl, rfl, rfl, by decide +kernel, rfl, by decide +kernel, by decide +kernel⟩

abbrev s_law : Stmt := top 32
theorem sc_law : FnScope ["_law_script", "_law_hand_here", "_law_way", "_law_turn", "_law_plain"] ["_law_script"] (defScope s_law) := ⟨rfl, rfl, rfl, by decide +kernel, rfl, by decide +kernel, by decide +kernel⟩

/-! ### alike -/
def sp_l_alike (K : PySem.W.Frag) : Sp := fun vs H Q _ => ∃ (G M : Hp) (va vb : V) (xs : List V), vs = [va, vb] ∧ Sta G M H ∧ (cL cV).r G va xs ∧ (cL cV).r G vb xs ∧ xs.length ≤ 2 ∧ (∀ x ∈ xs, Th 2 G M x) ∧ Ret Q G M cB true
def t_l_alike (K : PySem.W.Frag) : TS := tRet (tAndV (tOp (rEqV K) (tVar 0) (tVar 1)) (tOp rEq (tCB rReprL (tCons (tVar 0) tNil)) (tCB rReprL (tCons (tVar 1) tNil))))
theorem rd_l_alike {K : PySem.W.Frag} (vs : List V) (H : Hp) (Q : VK) (E : XK) (h : sp_l_alike K vs H Q E) : t_l_alike K { nx := fun _ H' => Q .non H', rt := Q } (start ["_law_found", "_law_due"] vs) H := by
  obtain ⟨G, M, va, vb, xs, rfl, S, ha, hb, hz, ht, q⟩ := h
  show t_l_alike K _ [some va, some vb] H
  obtain ⟨ds, hd, sh, sz, dp, ln⟩ := ths_dd (by decide) ht
  have zz : (listText (PyData.shownAll ds)).length ≤ sizeLine := by
    have z := listText_le sz
    have y : ds.length ≤ 2 := by omega
    have w := Nat.mul_le_mul_right 200002 y
    rw [sizeLine_eq]
    omega
  have e1 : Ev (tVar 0) [some va, some vb] G M M (cL cV) xs := ev_var rfl ha
  have e2 : Ev (tVar 1) [some va, some vb] G M M (cL cV) xs := ev_var rfl hb
  have e3 := ev_eq (ev_reprL hd sh zz (by omega) e1) (ev_reprL hd sh zz (by omega) e2)
  refine s_ret (c := cB) (d := true && decide (listText (PyData.shownAll ds) = listText (PyData.shownAll ds))) (ev_andVT (ev_eqVL e1 e2 ht) e3) S fun v G' H' e S r => ?_
  have r' : cB.r G' v true := by simpa using r
  exact q v G' H' e S r'
theorem ok_l_alike {P : Program} {w : World} {K : PySem.W.Frag} {mg : Str → Option Value} {base : Heap} (T : Tx K mg) : FnG P w K mg base CX0 1 "_law_alike" ["_law_found", "_law_due"] (sp_l_alike K) :=
  fn_byG T.g_l_alike T.f_l_alike sc_l_alike (fun vs H Q E h => by obtain ⟨_, _, _, _, _, e, _⟩ := h; rw [e]; rfl) (fun _ _ _ _ _ _ us hl => match us, hl with | [_, _], _ => rfl) fun cdv A outer s H vs Q E hr hg h => ⟨t_l_alike K,
    (pss_one (ps_ret (pe_and (pe_cmpR (op_eqV hr.units) (pv 0) (pv 1) (nomark _)) (pe_one (pe_cmpR op_eq (pe_callB (call_reprL hg hr.units) (by rfl) T.b_repr (by decide +kernel) (pa_cons (pv 0) pa_nil)) (pe_callB (call_reprL hg hr.units) (by rfl) T.b_repr (by decide +kernel) (pa_cons (pv 1) pa_nil)) (nomark _)))))), rd_l_alike vs H Q E h⟩
/-! ### right -/
def dueP (way : Int) (x y : V) : List V := cutD [x, y] none (some ((2 * (if (decide (way ∈ [4, 6])) = true then (1 : Int) else 0)) + (if ((!decide (way ∈ [4, 6])) && (decide (way < 12))) = true then (1 : Int) else 0)))
/-- what the law asks of a way, in plain Lean -/
def Good (way : Int) (x y : V) : Prop := ∃ e, m_l_made way x y = some e ∧ m_l_flags e = some [way] ∧ m_l_fields way e = some (dueP way x y)
def sp_l_right (K : PySem.W.Frag) : Sp := fun vs H Q _ => ∃ (G M M0 : Hp) (way : Int) (x y : V), vs = [V.int way, x, y] ∧ Sta G M H ∧ Th 0 G M x ∧ Th 0 G M y ∧ Fla (.int way) ∧ Good way x y ∧ (∀ b o, M0 b = some o → M b = some o ∧ V.ref b ≠ x ∧ V.ref b ≠ y) ∧ Ret Q G M0 cB true
def t_l_right (K : PySem.W.Frag) : TS :=
  (tSeq (tAsg (tCall (sp_l_made K) [] E0 (tCons (tVar 0) (tCons (tVar 1) (tCons (tVar 2) tNil)))) (gName 3))
  (tSeq (tIfS (tOr (tTest (tOp (rDat (List Int) fun d e => !decide (d = e)) (tCall (sp_l_flags K) [] E0 (tCons (tVar 3) tNil)) (tLst (tCons (tVar 0) tNil)))) (tOr (tNot (tB (tCB (rIsX K) (tCons (tVar 3) (tCons (tC (.ref (He.ga K "ClubError"))) tNil))))) (tNot (tB (tCB (rIsX K) (tCons (tVar 3) (tCons (tC (.ty "ValueError")) tNil))))))) (tRet (tC (.bl false))) tNext)
  (tSeq (tFor (iList K (tLst (tCons (tVar 1) (tCons (tVar 2) tNil)))) (gName 4) (tBump K))
  (tSeq (tAsg (tSl (rSlL K) (tLst (tCons (tVar 1) (tCons (tVar 2) tNil))) tNoPart (tPart (tOp (rI0 fun i j => .int (i + j)) (tOp (rI CMul fun i j => .int (i * j)) (tC (.int 2)) (tCB rInt1 (tCons (tOp (rIn K false) (tVar 0) (tTup (tCons (tC (.int 4)) (tCons (tC (.int 6)) tNil)))) tNil))) (tCB rInt1 (tCons (tAndV (tOp (rIn K true) (tVar 0) (tTup (tCons (tC (.int 4)) (tCons (tC (.int 6)) tNil)))) (tOp (rI0 fun i j => .bl (decide (i < j))) (tVar 0) (tC (.int 12)))) tNil))))) (gName 5))
  (tRet (tCall (sp_l_alike K) [] E0 (tCons (tCall (sp_l_fields K) [] E0 (tCons (tVar 0) (tCons (tVar 3) tNil))) (tCons (tVar 5) tNil))))))))
theorem mem_cutD {x y z : V} {a b : Option Int} (h : z ∈ cutD [x, y] a b) : z = x ∨ z = y := by
  have z1 := List.mem_of_mem_drop (List.mem_of_mem_take h)
  simpa using z1
theorem rd_l_right {K : PySem.W.Frag} {mg : Str → Option Value} (T : Tx K mg) (vs : List V) (H : Hp) (Q : VK) (E : XK) (h : sp_l_right K vs H Q E) : t_l_right K { nx := fun _ H' => Q .non H', rt := Q } (start ["_law_way", "_law_thing", "_law_other", "_law_e", "_law_one", "_law_due"] vs) H := by
  obtain ⟨G, M, M0, way, x, y, rfl, S, tx, ty, fw, ⟨ex, g1, g2, g3⟩, hM0, q⟩ := h
  have E := Le.refl G
  show t_l_right K _ [some (V.int way), some x, some y, none, none, none] H
  refine s_asgS (ec3 (use_l_made g1) (ev_var (c := cI) (d := way) rfl rfl) (ev_wV rfl) (ev_wV rfl)) S fun v_e _ _ e S h_e => ?_
  replace E := E.trans e
  replace tx := tx.mono e
  replace ty := ty.mono e
  refine s_ifL (et_orT (et_T (ev_dat (ec1 (use_l_flags g2) (ev_var rfl h_e)) (ev_frzL (en_lst (ei_cons (ev_var (c := cI) (d := way) rfl rfl) ei_nil) (Nat.le_of_ble_eq_true rfl))))) (et_orT (et_not (et_B (ev_isX T.xk (c := "ClubError") (by decide) (ev_var rfl h_e)))) (et_not (et_B (ev_isV T.xk (ev_var rfl h_e)))))) S (fun hb => ?_) (fun _ G2 _ e S => ?_)
  · have z : isXB ex.1 "ClubError" = true := by unfold isXB; simp
    rw [z] at hb
    simp at hb
  replace E := E.trans e
  replace tx := tx.mono e
  replace ty := ty.mono e
  replace h_e := Cod.mono _ e h_e
  -- what was handed over is changed
  refine s_forOS (c := cF fun b : Bool => if b = true then x else y) (ew_list (ev_frzL (en_lst (ei_cons (ev_var (d := true) rfl rfl) (ei_cons (ev_var (d := false) rfl rfl) ei_nil)) (Nat.le_of_ble_eq_true rfl)))) S (f := fun (t : Nat) (_ : Bool) => if t < 2 then some (t + 1) else none) (t0 := 0) (t1 := 2) rfl
    (fun t G' M' σ' => Le G2 G' ∧ t ≤ 2 ∧ (∃ o, σ' = [some (V.int way), some x, some y, some v_e, o, none]) ∧ Th t G' M' x ∧ Th t G' M' y ∧ ∀ b o, M0 b = some o → M' b = some o) (fun G1 e => ⟨e, by decide, ⟨_, rfl⟩, tx.mono e, ty.mono e, fun b o hb => (hM0 b o hb).1⟩)
    (fun t t' a xv Ga G1 M2 H1 σ1 e0 e1 S hR hx hm => ?_) (fun G1 M2 H1 σ1 e S hR => ?_)
  · obtain ⟨le, hl, ⟨o, rfl⟩, tx, ty, hM⟩ := hR
    have hm' : (if t < 2 then some (t + 1) else none) = some t' := hm
    obtain ⟨h2, rfl⟩ := ite_some hm'
    have tv : Th t G1 M2 xv := by
      have hx' : xv = if a = true then x else y := hx
      rw [hx']
      cases a with
      | true => exact tx.mono e1
      | false => exact ty.mono e1
    have nv : ∀ b o, M0 b = some o → V.ref b ≠ xv := by
      intro b o hb
      have hx' : xv = if a = true then x else y := hx
      rw [hx']
      cases a with
      | true => exact (hM0 b o hb).2.1
      | false => exact (hM0 b o hb).2.2
    show tBump K _ [some (V.int way), some x, some y, some v_e, some xv, none] _
    refine s_bump tv (by omega) fw S rfl rfl fun G' M' H' e S up keep => ?_
    exact ⟨G', M', e1.trans e, S, (le.trans e1).trans e, h2, ⟨_, rfl⟩, up _ (tx.mono e1), up _ (ty.mono e1), fun b o hb => keep b o (hM b o hb) (nv b o hb)⟩
  · obtain ⟨le, _, ⟨o, rfl⟩, tx, ty, hM⟩ := hR
    replace E := E.trans e
    replace h_e := Cod.mono _ e h_e
    refine s_asgS (ev_frzL (en_slice (ev_frzL (en_lst (ei_cons (ev_wV (v := x) rfl) (ei_cons (ev_wV (v := y) rfl) ei_nil)) (Nat.le_of_ble_eq_true rfl))) eo_none (eo_some (ev_add (ev_mulL (ev_int (i := 2)) (ev_intB (ev_isinT (ev_var (c := cI) (d := way) rfl rfl) (ev_tups (ei_cons (ev_int (i := 4)) (ei_cons (ev_int (i := 6)) ei_nil)) (by decide)))) (by decide)) (ev_intB (ev_andVT (ev_notinT (ev_var (c := cI) (d := way) rfl rfl) (ev_tups (ei_cons (ev_int (i := 4)) (ei_cons (ev_int (i := 6)) ei_nil)) (by decide))) (ev_lt (ev_var (c := cI) (d := way) rfl rfl) (ev_int (i := 12))))))))) S fun v_due G3 _ e S h_due => ?_
    replace E := E.trans e
    replace tx := tx.mono e
    replace ty := ty.mono e
    replace h_e := Cod.mono _ e h_e
    have use : ∀ (G1 H1 : Hp) (v0 v1 : V) (Q : VK), Le G3 G1 → Sta G1 M2 H1 → (cL cV).r G1 v0 (dueP way x y) → (cL cV).r G1 v1 (dueP way x y) → Ret Q G1 M2 cB true → sp_l_alike K [v0, v1] H1 Q E0 := fun G1 H1 v0 v1 Q e S r0 r1 q =>
      ⟨G1, M2, v0, v1, _, rfl, S, r0, r1, by unfold dueP cutD; simp; omega, fun z hz => (mem_cutD hz).elim (fun h => h ▸ (tx.mono e)) (fun h => h ▸ (ty.mono e)), q⟩
    refine s_ret (ec2 use (ec2 (use_l_fields g3) (ev_var (c := cI) (d := way) rfl rfl) (ev_var rfl h_e)) (ev_var rfl h_due)) S fun v _ _ e S r => ?_
    exact q v _ _ (E.trans e) (S.drop hM) r
theorem ok_l_right {P : Program} {w : World} {K : PySem.W.Frag} {mg : Str → Option Value} {base : Heap} (T : Tx K mg) (F_l_flags : Fn P w K mg base CX0 1 "_law_flags" ["_law_e"] (sp_l_flags K)) (F_l_made : Fn P w K mg base CX0 3 "_law_made" ["_law_way", "_law_thing", "_law_other"] (sp_l_made K))
    (F_l_fields : Fn P w K mg base CX0 1 "_law_fields" ["_law_way", "_law_e"] (sp_l_fields K)) (F_l_alike : FnG P w K mg base CX0 1 "_law_alike" ["_law_found", "_law_due"] (sp_l_alike K)) : FnG P w K mg base CX0 4 "_law_right" ["_law_way", "_law_thing", "_law_other"] (sp_l_right K) :=
  fn_byG T.g_l_right T.f_l_right sc_l_right (fun vs H Q E h => by obtain ⟨_, _, _, _, _, _, e, _⟩ := h; rw [e]; rfl) (fun _ _ _ _ _ _ us hl => match us, hl with | [_, _, _], _ => rfl) fun cdv A outer s H vs Q E hr hg h => ⟨t_l_right K,
    (pss_cons (ps_set (i := 3) sc_l_right.nd rfl (Or.inl rfl) (pe_callF F_l_made (hr.mono (by decide)) pass0 (pa_cons (pv 0) (pa_cons (pv 1) (pa_cons (pv 2) pa_nil)))))
    (pss_cons (ps_if (PW.pt (pw_or (pt_cmpR (op_neT (List Int) hr.units (by decide)) (pe_callF F_l_flags (hr.mono (by decide)) pass0 (pa_cons (pv 3) pa_nil)) (pe_lst (pa_cons (pv 0) pa_nil)) (nomark _)) (pw_or (pt_not (pt_val (pe_callB call_isX (by rfl) T.b_isinstance (by decide +kernel) (pa_cons (pv 3) (pa_cons (pe_glob rfl T.g_ClubError rfl) pa_nil))))) (pw_or1 (pt_not (pt_val (pe_callB call_isX (by rfl) T.b_isinstance (by decide +kernel) (pa_cons (pv 3) (pa_cons (pe_bltn rfl T.b_ValueError (by decide +kernel) rfl) pa_nil))))))))) (pss_one (ps_ret pe_bl)) pss_nil)
    (pss_cons (ps_for PassesOwn.never rfl (pi_list (pe_lst (pa_cons (pv 1) (pa_cons (pv 2) pa_nil)))) (pg_name (i := 4) sc_l_right.nd rfl (Or.inl rfl))
      (pss_cons (ps_if (pt_val (pe_callB call_isi (by rfl) T.b_isinstance (by decide +kernel) (pa_cons (pv 4) (pa_cons (pe_bltn rfl T.b_list (by decide +kernel) rfl) pa_nil)))) (pss_one (ps_expr (pe_bm PySem.F.plainAttrs_list PySem.F.slot_list_append PySem.F.type_list_append mt_append (pv 4) (pa_cons (pv 0) pa_nil)))) pss_nil)
      (pss_one (ps_if (pt_val (pe_callB call_isi (by rfl) T.b_isinstance (by decide +kernel) (pa_cons (pv 4) (pa_cons (pe_bltn rfl T.b_dict (by decide +kernel) rfl) pa_nil)))) (pss_one (ps_dput (Nat.lt_of_le_of_lt (Nat.add_le_add_left (by decide : 1 ≤ 64) _) hr.units) (pv 4) pe_str (pv 0) rfl)) pss_nil))))
    (pss_cons (ps_set (i := 5) sc_l_right.nd rfl (Or.inl rfl) (pe_slice sl_list (pe_lst (pa_cons (pv 1) (pa_cons (pv 2) pa_nil))) po_none (po_some (pe_op op_add (pe_op op_mul pe_int (pe_callTy call_int1 (by rfl) T.b_int (by decide +kernel) (pa_cons (pe_cmpR op_in_seq (pv 0) (pe_tup (pa_cons pe_int (pa_cons pe_int pa_nil))) rfl) pa_nil))) (pe_callTy call_int1 (by rfl) T.b_int (by decide +kernel) (pa_cons (pe_and (pe_cmpR op_notIn_seq (pv 0) (pe_tup (pa_cons pe_int (pa_cons pe_int pa_nil))) rfl) (pe_one (pe_cmpR op_lt (pv 0) pe_int (nomark _)))) pa_nil))))))
    (pss_one (ps_ret (pe_callG F_l_alike (hr.mono (by decide)) hg pass0 (pa_cons (pe_callF F_l_fields (hr.mono (by decide)) pass0 (pa_cons (pv 0) (pa_cons (pv 3) pa_nil))) (pa_cons (pv 5) pa_nil))))))))), rd_l_right T vs H Q E h⟩
/-! ### value -/
theorem PV.put {B G M : Hp} {p : Addr} {o u : HO} {v : V} (hp : B p = some u) (h : PV B G M v) : PV B G (upd M p o) v := ⟨h.1.sub fun b w e hb => by
  have z := h.2 b e
  rw [upd_ne (fun q => by rw [q, hp] at z; cases z)]
  exact hb, h.2⟩
theorem fla_int {i : Int} (h : i.natAbs < 10 ^ 40) : Fla (.int i) := by
  have lg : i.natAbs.log2 < 140 := by
    by_cases z : i.natAbs = 0
    · rw [z]; decide
    · exact (Nat.log2_lt z).mpr (Nat.lt_trans h (by decide))
  refine ⟨.int i, .int i, by simp [PyData.showable]; omega, ?_⟩
  simp only [PyData.shown]
  have z := int_text_length_le (a := i) (k := 140) (by decide) lg
  rw [PyProof.Rows.ofString_len]
  omega
theorem fla_str {x : Str} (h : x.length ≤ 90) (hc : ∀ c ∈ x.cps.toList, c < 16 ^ 8) : Fla (.str x) := by
  refine ⟨.str x, .str x, by simp [PyData.showable], ?_⟩
  simp only [PyData.shown]
  have z := StrLaws.reprText_len x hc
  omega
theorem fla_bl {b : Bool} : Fla (.bl b) := ⟨.bool b, .bl b, by simp [PyData.showable], by cases b <;> decide +kernel⟩
theorem fla_non : Fla .non := ⟨.none, .non, by simp [PyData.showable], by decide +kernel⟩
theorem s_asgL {ta : TA} {σ : L2.St} {B G M H : Hp} {n i : Nat} {D : Ends} {u : TS} (h : EvPs B ta σ n) (hn : n ≤ 1000) (S : Sta G M H) (hb : Sub B M) (k : ∀ xs a1 G2 M2 H2, Le G G2 → Sta G2 M2 H2 → Sub M M2 → G2 a1 = some (.lst xs) → (∀ v ∈ xs, PV B G2 M2 v) → xs.length = n → u D (σ.set i (some (.ref a1))) H2) :
    tSeq (tAsg (tLst ta) (gName i)) u D σ H := h G M H S hb _ fun xs G1 M1 H1 e1 S1 s1 p1 l1 => ⟨by rw [l1, sizeLine_eq]; omega, fun a1 ha1 =>
  have e2 : Le G1 (upd G1 a1 (.lst xs)) := le_new (S1.freshG ha1)
  k xs a1 _ M1 _ (e1.trans e2) (S1.newG ha1) s1 upd_same (fun v hv => (p1 v hv).mono e2 (fun _ _ e => e)) l1⟩
theorem s_asgCat {t1 t2 t3 : TE} {σ : L2.St} {B G M H : Hp} {a1 p : Addr} {xs : List V} {o1 o2 : HO} {n : Int} {nm : Str} {j i : Nat} {D : Ends} {u : TS} (S : Sta G M H) (hb : Sub B M) (hx : G a1 = some (.lst xs)) (hl : xs.length ≤ 1000) (hj : σ[j]? = some (some (.ref a1))) (e1 : EvP B t1 σ)
    (e2 : ∀ G' M', Le G G' → Sub M M' → Ev t2 σ G' M' (upd M' p o1) cI n) (e3 : ∀ G' M', Le G G' → Sub M M' → Ev t3 σ G' (upd M' p o1) (upd M' p o2) cS nm)
    (k : ∀ vt c1 G' M' H', Le G G' → Sub M M' → Sta G' (upd M' p o2) H' → PV B G' M' vt → G' c1 = some (.lst (xs ++ [vt, .int n, .str nm])) → u D (σ.set i (some (.ref c1))) H') :
    tSeq (tAsg (tOp rCat (tVar j) (tLst (tCons t1 (tCons t2 (tCons t3 tNil))))) (gName i)) u D σ H := by
  have ev1 : Ev (tVar j) σ G M M cV (.ref a1) := ev_wV hj
  show tVar j σ H fun x H1 => t1 σ H1 fun x1 H2 => t2 σ H2 fun x2 H3 => t3 σ H3 fun x3 H4 => [x1, x2, x3].length ≤ sizeLine ∧ ∀ b1, H4 b1 = none → rCat x (V.ref b1) (upd H4 b1 (.lst [x1, x2, x3])) fun z H5 => u D (σ.set i (some z)) H5
  refine ev1 G H (Le.refl _) S _ fun x G3 H3 f3 S3 r3 => ?_
  cases r3
  refine e1 G3 M H3 S3 hb _ fun vt G4 M4 H4 f4 S4 s4 p4 => ?_
  refine e2 G4 M4 (f3.trans f4) s4 G4 H4 (Le.refl _) S4 _ fun vi G5 H5 f5 S5 r5 => ?_
  cases r5
  refine e3 G5 M4 ((f3.trans f4).trans f5) s4 G5 H5 (Le.refl _) S5 _ fun vn G6 H6 f6 S6 r6 => ?_
  cases r6
  refine ⟨by rw [sizeLine_eq]; exact Nat.le_of_ble_eq_true rfl, fun b1 hb1 => ?_⟩
  have S7 := S6.newG (o := .lst [vt, .int n, .str nm]) hb1
  have f7 : Le G6 (upd G6 b1 (.lst [vt, .int n, .str nm])) := le_new (S6.freshG hb1)
  refine ⟨a1, b1, xs, _, rfl, rfl, S7.g.lst ((((f3.trans f4).trans f5).trans f6).trans f7 |>.lst hx), S7.g.lst upd_same, by rw [sizeLine_eq]; simp; omega, fun c1 hc1 => ?_⟩
  have f8 : Le (upd G6 b1 (.lst [vt, .int n, .str nm])) (upd (upd G6 b1 (.lst [vt, .int n, .str nm])) c1 (.lst (xs ++ [vt, .int n, .str nm]))) := le_new (S7.freshG hc1)
  exact k vt c1 _ M4 _ (((((f3.trans f4).trans f5).trans f6).trans f7).trans f8) s4 (S7.newG hc1) (p4.mono ((((f5.trans f6)).trans f7).trans f8) (fun _ _ e => e)) upd_same
theorem s_retIx {K : PySem.W.Frag} {t : TE} {σ : L2.St} {G M M2 H : Hp} {c1 : Addr} {zs : List V} {k : Int} {v : V} {j : Nat} {D : Ends} (S : Sta G M H) (hl : G c1 = some (.lst zs)) (hj : σ[j]? = some (some (.ref c1))) (ed : Ev t σ G M M2 cI k) (hk : atI zs k = some v)
    (q : ∀ G' H', Le G G' → Sta G' M2 H' → D.rt v H') : tRet (tOp (rIxL K) (tVar j) t) D σ H := by
  have ev1 : Ev (tVar j) σ G M M cV (.ref c1) := ev_wV hj
  show tVar j σ H fun x H1 => t σ H1 fun y H2 => rIxL K x y H2 D.rt
  refine ev1 G H (Le.refl _) S _ fun x G3 H3 f3 S3 r3 => ?_
  cases r3
  refine ed G3 H3 f3 S3 _ fun vk G4 H4 f4 S4 r4 => ?_
  cases r4
  exact ⟨c1, zs, k, v, rfl, rfl, SqL.of (S4.g.lst ((f3.trans f4).lst hl)), hk, q G4 H4 (f3.trans f4) S4⟩
def sp_l_value (K : PySem.W.Frag) : Sp := fun vs H Q _ => ∃ (G M : Hp) (p a : Addr) (s : List Int) (hand : Hand) (i : Int) (h1 : Hand) (ns : List Str) (h2 : Hand) (nm : Str) (k : Int) (h3 : Hand), vs = [V.ref p] ∧ Sta G M H ∧ M p = some (handO a hand) ∧ (cL cI).r G (V.ref a) s ∧
  m_l_draw s hand 1000000000000000000000000000000 = some (i, h1) ∧ m_l_names s h1 1 = some (ns, h2) ∧ atI ns 0 = some nm ∧ m_l_draw s h2 15 = some (k, h3) ∧ 0 ≤ k ∧ k < 15 ∧ Fla (.int i) ∧ Fla (.str nm) ∧
  ∀ v G' M' H', Le G G' → Sta G' M' H' → Sub (upd M p (handO a h3)) M' → PV M G' M' v → Q v H'
def t_l_value (K : PySem.W.Frag) : TS :=
  (tSeq (tAsg (tLst (tCons (tC .non) (tCons (tC (.bl true)) (tCons (tC (.int 0)) (tCons (tUn (rU fun i => .int (-i)) (tC (.int 5))) (tCons (tOp (rI CPow fun i j => .int (i ^ j.toNat)) (tC (.int 10)) (tC (.int 39))) (tCons (tC (.str "")) (tCons (tC (.str "ab")) (tCons (tLst tNil) (tCons (tLst (tCons (tC (.str "a")) (tCons (tC (.int 1)) tNil))) (tCons tDNewK (tCons (tDisp [(tC (.str "a"), tLst (tCons (tC (.int 1)) tNil))]) (tCons (tTup tNil) tNil))))))))))))) (gName 1))
  (tSeq (tAsg (tOp rCat (tVar 1) (tLst (tCons (tTup (tCons (tC (.int 1)) (tCons (tC (.str "b")) tNil))) (tCons (tCall (sp_l_draw K) [] E0 (tCons (tVar 0) (tCons (tOp (rI CPow fun i j => .int (i ^ j.toNat)) (tC (.int 10)) (tC (.int 30))) tNil))) (tCons (tOp (rIxL K) (tCall (sp_l_names K) [] E0 (tCons (tVar 0) (tCons (tC (.int 1)) tNil))) (tC (.int 0))) tNil))))) (gName 1))
  (tRet (tOp (rIxL K) (tVar 1) (tCall (sp_l_draw K) [] E0 (tCons (tVar 0) (tCons (tC (.int 15)) tNil)))))))
theorem rd_l_value {K : PySem.W.Frag} (vs : List V) (H : Hp) (Q : VK) (E : XK) (h : sp_l_value K vs H Q E) : t_l_value K { nx := fun _ H' => Q .non H', rt := Q } (start ["_law_hand_here", "_law_some"] vs) H := by
  obtain ⟨G, M, p, a, s, hand, i, h1, ns, h2, nm, k, h3, rfl, S, hp, hh, d1, d2, d3, d4, k0, k1, fi, fs, q⟩ := h
  show t_l_value K _ [some (V.ref p), none] H
  have eps : EvPs M (tCons (tC .non) (tCons (tC (.bl true)) (tCons (tC (.int 0)) (tCons (tUn (rU fun i => .int (-i)) (tC (.int 5))) (tCons (tOp (rI CPow fun i j => .int (i ^ j.toNat)) (tC (.int 10)) (tC (.int 39))) (tCons (tC (.str "")) (tCons (tC (.str "ab")) (tCons (tLst tNil) (tCons (tLst (tCons (tC (.str "a")) (tCons (tC (.int 1)) tNil))) (tCons tDNewK (tCons (tDisp [(tC (.str "a"), tLst (tCons (tC (.int 1)) tNil))]) (tCons (tTup tNil) tNil)))))))))))) [some (V.ref p), none] 12 :=
    eps_cons (ep_c fla_non) (eps_cons (ep_c fla_bl) (eps_cons (ep_c (fla_int (by decide))) (eps_cons (ep_int (fun G M => ev_neg (ev_int (i := 5))) (fla_int (by decide))) (eps_cons (ep_int (fun G M => ev_of (ev_pow (ev_int (i := 10)) (ev_int (i := 39)) ⟨by decide, by decide, by decide⟩) (d' := 1000000000000000000000000000000000000000) (by decide)) (fla_int (by decide)))
    (eps_cons (ep_c (fla_str (by decide) (by decide))) (eps_cons (ep_c (fla_str (by decide) (by decide))) (eps_cons (ep_lst (vs := []) (fun H Q q => ⟨Nat.zero_le _, q⟩) (by simp) (by decide)) (eps_cons (ep_lst (vs := [.str "a", .int 1]) (fun H Q q => ⟨by rw [sizeLine_eq]; exact Nat.le_of_ble_eq_true rfl, q⟩) (fun v hv => by
        rcases List.mem_cons.mp hv with rfl | hv
        · exact fla_str (by decide) (by decide)
        · rw [List.mem_singleton.mp hv]; exact fla_int (by decide)) (Nat.le_of_ble_eq_true rfl))
    (eps_cons ep_dic0 (eps_cons (ep_dic1 (by decide) (by decide) (fla_int (by decide))) (eps_cons (ep_tup (vs := []) (fun H Q q => ⟨Nat.zero_le _, q⟩) (by simp) (by decide)) eps_nil)))))))))))
  unfold t_l_value
  refine s_asgL eps (by decide) S (fun _ _ e => e) fun xs a1 G2 M1 H2 e2 S2 s1 h2l p2 l1 => ?_
  clear eps
  show tSeq (tAsg (tOp rCat (tVar 1) _) (gName 1)) _ _ [some (V.ref p), some (V.ref a1)] H2
  refine s_asgCat (B := M) (p := p) (o1 := handO a h1) (o2 := handO a h2) (n := i) (nm := nm) S2 s1 h2l (by rw [l1]; decide) rfl
    (ep_tup (vs := [.int 1, .str "b"]) (fun H Q q => ⟨by rw [sizeLine_eq]; exact Nat.le_of_ble_eq_true rfl, q⟩) (fun v hv => by
        rcases List.mem_cons.mp hv with rfl | hv
        · exact fla_int (by decide)
        · rw [List.mem_singleton.mp hv]; exact fla_str (by decide) (by decide)) (Nat.le_of_ble_eq_true rfl))
    (fun G' M' e s => ec2 (use_l_draw (Cod.mono _ (e2.trans e) hh) (s _ _ (s1 _ _ hp)) d1) (ev_ref rfl) (ev_of (ev_pow (ev_int (i := 10)) (ev_int (i := 30)) ⟨by decide, by decide, by decide⟩) (d' := 1000000000000000000000000000000) (by decide)))
    (fun G' M' e s => ev_ixL (ev_M (ec2 (use_l_names (Cod.mono _ (e2.trans e) hh) upd_same d2) (ev_ref rfl) (ev_int (i := 1))) upd_upd) (ev_int (i := 0)) d3)
    fun vt c1 G3 M3 H3 e3 s3 S3 p3 h3l => ?_
  obtain ⟨kn, rfl⟩ := Int.eq_ofNat_of_zero_le k0
  have kl : kn < (xs ++ [vt, .int i, .str nm]).length := by rw [List.length_append, l1]; simp; omega
  show tRet (tOp (rIxL K) (tVar 1) _) _ [some (V.ref p), some (V.ref c1)] H3
  refine s_retIx S3 h3l rfl (ec2 (use_l_draw (Cod.mono _ (e2.trans e3) hh) upd_same d4) (ev_ref rfl) (ev_int (i := 15))) (atI_nat (List.getElem?_eq_getElem kl)) fun G4 H4 e4 S4 => ?_
  have mem := List.getElem_mem kl
  rw [upd_upd] at S4
  refine q _ G4 _ _ ((e2.trans e3).trans e4) S4 (fun b o hb => ?_) ?_
  · by_cases z : b = p
    · subst z; rw [upd_same] at hb ⊢; exact hb
    · rw [upd_ne z] at hb ⊢; exact s3 _ _ (s1 _ _ hb)
  · rcases List.mem_append.mp mem with mem | mem
    · exact ((p2 _ mem).mono (e3.trans e4) s3).put hp
    · rcases List.mem_cons.mp mem with z | mem
      · rw [z]; exact (p3.mono e4 (fun _ _ e => e)).put hp
      · rcases List.mem_cons.mp mem with z | mem
        · rw [z]; exact pv_fla fi
        · rw [List.mem_singleton.mp mem]; exact pv_fla fs
theorem ok_l_value {P : Program} {w : World} {K : PySem.W.Frag} {mg : Str → Option Value} {base : Heap} (T : Tx K mg) (F_l_draw : Fn P w K mg base CX0 3 "_law_draw" ["_law_hand_here", "_law_tally"] (sp_l_draw K)) (F_l_names : Fn P w K mg base CX0 4 "_law_names" ["_law_hand_here", "_law_many"] (sp_l_names K)) : Fn P w K mg base CX0 5 "_law_value" ["_law_hand_here"] (sp_l_value K) :=
  fn_by T.g_l_value T.f_l_value sc_l_value (fun vs H Q E h => by obtain ⟨_, _, _, _, _, _, _, _, _, _, _, _, _, e, _⟩ := h; rw [e]; rfl) (fun _ _ _ _ _ _ us hl => match us, hl with | [_], _ => rfl) fun cdv A outer s H vs Q E hr h => ⟨t_l_value K,
    (pss_cons (ps_set (i := 1) sc_l_value.nd rfl (Or.inl rfl) (pe_lst (pa_cons pe_non (pa_cons pe_bl (pa_cons pe_int (pa_cons (pe_un un_neg pe_int) (pa_cons (pe_op op_pow pe_int pe_int) (pa_cons pe_str (pa_cons pe_str (pa_cons (pe_lst pa_nil) (pa_cons (pe_lst (pa_cons pe_str (pa_cons pe_int pa_nil))) (pa_cons pe_dnewK (pa_cons (pe_disp (pps_cons pe_str (pe_lst (pa_cons pe_int pa_nil)) pps_nil) rfl rfl (by simp) (by decide)) (pa_cons (pe_tup pa_nil) pa_nil))))))))))))))
    (pss_cons (ps_set (i := 1) sc_l_value.nd rfl (Or.inl rfl) (pe_op op_cat (pv 1) (pe_lst (pa_cons (pe_tup (pa_cons pe_int (pa_cons pe_str pa_nil))) (pa_cons (pe_callF F_l_draw (hr.mono (by decide)) pass0 (pa_cons (pv 0) (pa_cons (pe_op op_pow pe_int pe_int) pa_nil))) (pa_cons (pe_ix ix_list (pe_callF F_l_names (hr.mono (by decide)) pass0 (pa_cons (pv 0) (pa_cons pe_int pa_nil))) pe_int (fun _ _ => rfl)) pa_nil))))))
    (pss_one (ps_ret (pe_ix ix_list (pv 1) (pe_callF F_l_draw (hr.mono (by decide)) pass0 (pa_cons (pv 0) (pa_cons pe_int pa_nil))) (fun _ _ => rfl)))))), rd_l_value vs H Q E h⟩
/-! ### draws, in plain Lean -/
theorem step_ok (s : List Int) (h : Hand) : ∃ r h', m_l_step s h = some (r, h') ∧ h'.i = h.i := ⟨_, _, rfl, rfl⟩
theorem take_ok (s : List Int) (h : Hand) (hi : 0 ≤ h.i) : ∃ h', m_l_take s h = some ((), h') ∧ 0 ≤ h'.i := by
  have first : ∃ j, (if (decide (h.i < (s.length : Int))) = true then (Option.bind (atI s h.i) fun it => some (if it < 0 then -it else it)) else some 0) = some j := by
    by_cases c : h.i < (s.length : Int)
    · obtain ⟨n, e⟩ := Int.eq_ofNat_of_zero_le hi
      have hn : n < s.length := by omega
      rw [if_pos (decide_eq_true c), e, atI_nat (List.getElem?_eq_getElem hn)]
      exact ⟨_, rfl⟩
    · rw [if_neg (by simpa using c)]
      exact ⟨_, rfl⟩
  obtain ⟨j, hj⟩ := first
  unfold m_l_take
  rw [hj, Option.bind_some, Option.bind_some]
  by_cases c : j ≥ 1000000000000000000
  · rw [if_pos (decide_eq_true c)]
    refine ⟨_, rfl, ?_⟩
    show 0 ≤ h.i + 1
    omega
  · rw [if_neg (by simpa using c)]
    refine ⟨_, rfl, ?_⟩
    show 0 ≤ h.i + 1
    omega
noncomputable def wstep (s : List Int) (tally : Int) (st : Int × Int × Hand) : Option (WT (Int × Int × Hand)) :=
  if (decide (st.2.1 < tally)) = true then (Option.bind (m_l_step s st.2.2) fun q2 => some (WT.next (((st.1 * 4294967296) + q2.1), (st.2.1 * 4294967296), q2.2))) else some (WT.stop (st.1, st.2.1, st.2.2))
theorem wloop (s : List Int) (tally : Int) : ∀ (k : Nat) (v z : Int) (h : Hand), 0 < z → tally ≤ z * 2 ^ k → ∃ t, whileTN (wstep s tally) (k + 1) (v, z, h) = some t ∧ t.2.2.i = h.i
  | 0, v, z, h, hz, ht => by
    have c : ¬ z < tally := by simp at ht; omega
    refine ⟨(v, z, h), ?_, rfl⟩
    unfold whileTN wstep
    rw [if_neg (by simpa using c)]
  | k + 1, v, z, h, hz, ht => by
    by_cases c : z < tally
    · obtain ⟨r, h', e, e2⟩ := step_ok s h
      have hz' : 0 < z * 4294967296 := by omega
      have ht' : tally ≤ z * 4294967296 * 2 ^ k := by
        have p : (0 : Int) < 2 ^ k := Int.pow_pos (by decide)
        have e1 : z * 2 ^ (k + 1) = (z * 2 ^ k) * 2 := by rw [Int.pow_succ, Int.mul_assoc]
        have e2 : z * 4294967296 * 2 ^ k = (z * 2 ^ k) * 4294967296 := by rw [Int.mul_assoc, Int.mul_comm 4294967296, Int.mul_assoc]
        have p2 : 0 < z * 2 ^ k := Int.mul_pos hz p
        rw [e2]
        rw [e1] at ht
        omega
      obtain ⟨t, h1, h2⟩ := wloop s tally k (v * 4294967296 + r) (z * 4294967296) h' hz' ht'
      refine ⟨t, ?_, h2.trans e2⟩
      have e3 : wstep s tally (v, z, h) = some (.next (v * 4294967296 + r, z * 4294967296, h')) := by
        unfold wstep
        rw [if_pos (by simpa using c)]
        show (m_l_step s h).bind _ = _
        rw [e]
        rfl
      rw [whileTN, e3]
      exact h1
    · refine ⟨(v, z, h), ?_, rfl⟩
      unfold whileTN wstep
      rw [if_neg (by simpa using c)]
theorem draw_ok (s : List Int) (h : Hand) {n : Int} (hi : 0 ≤ h.i) (hn : 0 < n) (hz0 : n ≤ 10 ^ 40) : ∃ r h', m_l_draw s h n = some (r, h') ∧ 0 ≤ h'.i ∧ 0 ≤ r ∧ r < n := by
  have hz : n.natAbs < 2 ^ 9000 := by
    have h1 : n.natAbs < 2 ^ 200 := by
      have : (10 : Int) ^ 40 < 2 ^ 200 := by decide
      omega
    exact Nat.lt_of_lt_of_le h1 (Nat.pow_le_pow_right (by decide) (by decide))
  have first : ∃ j, (if ((decide (h.b = 0)) && (decide (h.c = 0))) = true then (Option.bind (m_l_take s h) fun q0 => some q0.2) else some h) = some j ∧ 0 ≤ j.i := by
    split
    · obtain ⟨h', e, e2⟩ := take_ok s h hi
      rw [e]
      exact ⟨h', rfl, e2⟩
    · exact ⟨h, rfl, hi⟩
  obtain ⟨j, hj, ji⟩ := first
  have md : ∀ x : Int, modP x n = some (x % n) := fun x => if_pos hn
  have dv : ∀ x : Int, divP x n = some (x / n) := fun x => if_pos ⟨hn, hz⟩
  unfold m_l_draw
  rw [hj, Option.bind_some]
  by_cases c : j.b > 0
  · rw [if_pos (decide_eq_true c), md, dv]
    exact ⟨_, _, rfl, ji, Int.emod_nonneg _ (by omega), Int.emod_lt_of_pos _ hn⟩
  · rw [if_neg (by simpa using c), Option.bind_some]
    obtain ⟨r, h', e, e2⟩ := step_ok s { j with c := j.c - 1 }
    rw [e, Option.bind_some]
    have hk : n ≤ 4294967296 * 2 ^ n.toNat := by
      have h1 : n.toNat < 2 ^ n.toNat := Nat.lt_two_pow_self
      have h2 : (n.toNat : Int) < ((2 ^ n.toNat : Nat) : Int) := by exact_mod_cast h1
      have h3 : ((2 ^ n.toNat : Nat) : Int) = (2 : Int) ^ n.toNat := by norm_cast
      omega
    obtain ⟨t, h1, h2⟩ := wloop s n n.toNat r 4294967296 h' (by decide) hk
    have w := whileT_of h1
    show ∃ r_1 h'_1, (Option.bind (whileT (wstep s n) (r, 4294967296, h')) _) = _ ∧ _
    rw [w, Option.bind_some, md]
    exact ⟨_, _, rfl, by rw [h2, e2]; exact ji, Int.emod_nonneg _ (by omega), Int.emod_lt_of_pos _ hn⟩
/-! ### names, in plain Lean -/
def abc : Str := "abcdefghijklmnopqrstuvwxyz"
def one (c : Nat) : Str := ⟨#[c]⟩
theorem abc_at : ∀ n : Fin 26, signAt abc ((n.val : Nat) : Int) = some (one (97 + n.val)) := by decide +kernel
theorem sign_ok {i : Int} (h0 : 0 ≤ i) (h1 : i < 26) : ∃ c, signAt abc i = some (one c) ∧ 97 ≤ c ∧ c ≤ 122 ∧ c = 97 + i.toNat := by
  obtain ⟨n, rfl⟩ := Int.eq_ofNat_of_zero_le h0
  have hn : n < 26 := by omega
  have z := abc_at ⟨n, hn⟩
  exact ⟨97 + n, z, by omega, by omega, by simp⟩
noncomputable def letF (s : List Int) (t : Hand) (x : Int) : Option (Option Str × Hand) := Option.bind (m_l_draw s t 26) fun q3 => Option.bind (signAt abc q3.1) fun sg => some (some sg, q3.2)
theorem letters_ok (s : List Int) : ∀ (ra : List Int) (h : Hand), 0 ≤ h.i → ∃ (cs : List Nat) (h' : Hand), lcH (letF s) ra h = some (cs.map one, h') ∧ 0 ≤ h'.i ∧ cs.length = ra.length ∧ ∀ c ∈ cs, 97 ≤ c ∧ c ≤ 122
  | [], h, hi => ⟨[], h, rfl, hi, rfl, by simp⟩
  | x :: ra, h, hi => by
    obtain ⟨r, h1, e1, i1, r0, r1⟩ := draw_ok s h (n := 26) hi (by decide) (by decide)
    obtain ⟨c, e2, c1, c2, _⟩ := sign_ok r0 r1
    obtain ⟨cs, h2, e3, i2, l2, a2⟩ := letters_ok s ra h1 i1
    refine ⟨c :: cs, h2, ?_, i2, by simp [l2], fun d hd => ?_⟩
    · show (letF s h x).bind (fun ob => (lcH (letF s) ra ob.2).map fun r => (ob.1.toList ++ r.1, r.2)) = _
      have e4 : letF s h x = some (some (one c), h1) := by
        unfold letF
        rw [e1, Option.bind_some, e2]
        rfl
      rw [e4, Option.bind_some, e3]
      rfl
    · rcases List.mem_cons.mp hd with rfl | hd
      · exact ⟨c1, c2⟩
      · exact a2 d hd
theorem join_abc (cs : List Nat) : Txt.join "" (cs.map one) = ⟨cs.toArray⟩ := by
  have e0 : ("" : Str) = SX.S [] := rfl
  have e1 : cs.map one = (cs.map fun c => [c]).map SX.S := by rw [List.map_map]; rfl
  rw [e0, e1, SX.join_S]
  have e2 : ∀ l : List Nat, TL.joinL [] (l.map fun c => [c]) = l := by
    intro l
    induction l with
    | nil => rfl
    | cons a l ih =>
      cases l with
      | nil => rfl
      | cons b l =>
        show [a] ++ ([] ++ TL.joinL [] ((b :: l).map fun c => [c])) = _
        rw [ih]
        rfl
  rw [e2]
def wordsL : List Str := ["join", "give", "wish", "withdraw", "meet", "undo", "redo", "purses", "lot", "choices", "plan", "room", "left", "could", "yes", "no", "ok", "a", "b", "ab", "ba", "aa", "z", "zz"]
theorem words_cat : catS ("join give wish withdraw meet undo redo purses lot choices plan room left could yes no ok" : Str) (" a b ab ba aa z zz" : Str) = some ("join give wish withdraw meet undo redo purses lot choices plan room left could yes no ok a b ab ba aa z zz" : Str) := by decide +kernel
theorem words_split : splitP ("join give wish withdraw meet undo redo purses lot choices plan room left could yes no ok a b ab ba aa z zz" : Str) (" " : Str) = some wordsL := by decide +kernel
def NmOk (x : Str) : Prop := x.length ≤ 20 ∧ ∀ c ∈ x.cps.toList, c < 200
theorem words_turn : ∀ t : Fin 24, (Option.bind (catL (cutD wordsL (some ((t.val : Nat) : Int)) none) (cutD wordsL none (some ((t.val : Nat) : Int)))) fun ct => some (cutD ct none (some 1))) = some [wordsL.getD t.val ""] := by decide +kernel
theorem words_ok : ∀ t : Fin 24, (wordsL.getD t.val "").length ≤ 20 ∧ ((wordsL.getD t.val "").cps.toList.all fun c => decide (c < 200)) = true := by decide +kernel
theorem nm_cut {x : Str} {lo hi : Option Int} (h : NmOk x) : (cutS x lo hi).length ≤ x.length ∧ ∀ c ∈ (cutS x lo hi).cps.toList, c < 200 := by
  unfold cutS
  refine ⟨?_, fun c hc => h.2 c ?_⟩
  · show (List.toArray _).size ≤ x.cps.size
    rw [List.size_toArray, List.length_take, List.length_drop, Array.length_toList]
    omega
  · simp only [List.toList_toArray] at hc
    exact List.mem_of_mem_drop (List.mem_of_mem_take hc)
theorem app_chars {x y : Str} (hx : ∀ c ∈ x.cps.toList, c < 200) (hy : ∀ c ∈ y.cps.toList, c < 200) : ∀ c ∈ (x ++ y).cps.toList, c < 200 := fun c hc => by
  have e : (x ++ y).cps.toList = x.cps.toList ++ y.cps.toList := by
    show (x.cps ++ y.cps).toList = _
    exact Array.toList_append
  rw [e] at hc
  rcases List.mem_append.mp hc with hc | hc
  · exact hx c hc
  · exact hy c hc
theorem range1B : rangeB 1 = some [0] := by decide +kernel
theorem names1_ok (s : List Int) (h : Hand) (hi : 0 ≤ h.i) : ∃ nm h', m_l_names s h 1 = some ([nm], h') ∧ 0 ≤ h'.i ∧ NmOk nm := by
  obtain ⟨r0, h0, e0, i0, a0, b0⟩ := draw_ok s h (n := 4) hi (by decide) (by decide)
  obtain ⟨r1, h1, e1, i1, a1, b1⟩ := draw_ok s h0 (n := 24) i0 (by decide) (by decide)
  obtain ⟨r2, h2, e2, i2, a2, b2⟩ := draw_ok s h1 (n := 7) i1 (by decide) (by decide)
  have er : rangeB (1 + r2) = some (rangeD 0 (1 + r2).toNat) := if_pos ⟨by omega, by omega⟩
  obtain ⟨cs, h3, e3, i3, l3, c3⟩ := letters_ok s (rangeD 0 (1 + r2).toNat) h2 i2
  rw [rangeD_len] at l3
  have ej : joinP "" (cs.map one) = some ⟨cs.toArray⟩ := by
    unfold joinP
    rw [if_pos, join_abc]
    have z : ∀ l : List Nat, (((l.map one).map fun x => x.length).sum) = l.length := by
      intro l
      induction l with
      | nil => rfl
      | cons a l ih =>
        simp only [List.map_cons, List.sum_cons, List.length_cons, ih]
        show 1 + _ = _
        omega
    rw [z, List.length_map]
    show cs.length + cs.length * 0 ≤ _
    omega
  have le : (⟨cs.toArray⟩ : Str).length = cs.length := rfl
  have el : lenS ⟨cs.toArray⟩ = some (cs.length : Int) := if_pos (by rw [le, sizeLine_eq]; omega)
  obtain ⟨r4, h4, e4, i4, a4, b4⟩ := draw_ok s h3 (n := (cs.length : Int) + 1) i3 (by omega) (by omega)
  have hb : NmOk ⟨cs.toArray⟩ := ⟨by rw [le]; omega, fun c hc => by have := c3 c (by simpa using hc); omega⟩
  unfold m_l_names
  rw [words_cat, Option.bind_some, words_split, Option.bind_some, e0, Option.bind_some, e1, Option.bind_some, e2, Option.bind_some, er, Option.bind_some]
  show ∃ nm h', (Option.bind (lcH (letF s) _ h2) _) = _ ∧ _
  rw [e3, Option.bind_some, ej, Option.bind_some, el, Option.bind_some, e4, Option.bind_some]
  by_cases w0 : r0 = 0
  · rw [if_pos (decide_eq_true w0)]
    obtain ⟨t, rfl⟩ := Int.eq_ofNat_of_zero_le a1
    have ht : t < 24 := by omega
    have z := words_turn ⟨t, ht⟩
    obtain ⟨k1, k2⟩ := words_ok ⟨t, ht⟩
    cases ec : catL (cutD wordsL (some (t : Int)) none) (cutD wordsL none (some (t : Int))) with
    | none =>
      have z' : (Option.bind (catL (cutD wordsL (some (t : Int)) none) (cutD wordsL none (some (t : Int)))) fun ct => some (cutD ct none (some 1))) = _ := z
      rw [ec] at z'
      cases z'
    | some ct =>
      have z' : (Option.bind (catL (cutD wordsL (some (t : Int)) none) (cutD wordsL none (some (t : Int)))) fun ct => some (cutD ct none (some 1))) = _ := z
      rw [ec, Option.bind_some] at z'
      refine ⟨wordsL.getD t "", h4, ?_, i4, k1, fun c hc => of_decide_eq_true (List.all_eq_true.mp k2 c hc)⟩
      rw [Option.bind_some, Option.some.inj z']
  · rw [if_neg (by simpa using w0)]
    have hm : 0 ≤ (r1 + 3 * 0) % 26 ∧ (r1 + 3 * 0) % 26 < 26 := ⟨Int.emod_nonneg _ (by decide), Int.emod_lt_of_pos _ (by decide)⟩
    obtain ⟨c, e5, k1, k2, _⟩ := sign_ok hm.1 hm.2
    have e5' : signAt ("abcdefghijklmnopqrstuvwxyz" : Str) ((r1 + 3 * 0) % 26) = some (one c) := e5
    rw [range1B]
    by_cases w1 : r0 = 1
    · rw [if_pos (decide_eq_true w1), Option.bind_some]
      refine ⟨one c, h4, ?_, i4, by show 1 ≤ 20; decide, fun d hd => ?_⟩
      · simp only [lcP, e5', Option.bind_some, Option.map_some]
        rfl
      · have : d = c := by simpa [one] using hd
        omega
    · rw [if_neg (by simpa using w1), Option.bind_some]
      have cz : ∀ lo hi, cutSP ⟨cs.toArray⟩ lo hi = some (cutS ⟨cs.toArray⟩ lo hi) := fun lo hi => if_pos (by rw [le, sizeLine_eq]; omega)
      obtain ⟨u1, u2⟩ := nm_cut (lo := none) (hi := some r4) hb
      obtain ⟨v1, v2⟩ := nm_cut (lo := some r4) (hi := none) hb
      rw [le] at u1 v1
      have oc : ∀ d ∈ (one c).cps.toList, d < 200 := fun d hd => by
        have : d = c := by simpa [one] using hd
        omega
      have o1 : (one c).length = 1 := rfl
      have k3 : catS (cutS ⟨cs.toArray⟩ none (some r4)) (one c) = some (cutS ⟨cs.toArray⟩ none (some r4) ++ one c) := if_pos (by rw [o1, sizeLine_eq]; omega)
      have k4 : catS (cutS ⟨cs.toArray⟩ none (some r4) ++ one c) (cutS ⟨cs.toArray⟩ (some r4) none) = some (cutS ⟨cs.toArray⟩ none (some r4) ++ one c ++ cutS ⟨cs.toArray⟩ (some r4) none) := if_pos (by rw [strLen_append, o1, sizeLine_eq]; omega)
      refine ⟨cutS ⟨cs.toArray⟩ none (some r4) ++ one c ++ cutS ⟨cs.toArray⟩ (some r4) none, h4, ?_, i4, ?_, app_chars (app_chars u2 oc) v2⟩
      · simp only [lcP, e5', cz, k3, k4, Option.bind_some, Option.map_some]
        rfl
      · rw [strLen_append, strLen_append, o1]
        omega
/-! ### the ways, in plain Lean -/
theorem flags_fst (n : Str) (fs : List (Str × V)) : m_l_flags (n, fs) = m_l_flags (n, []) := rfl
theorem good0 (x y : V) : Good 0 x y := ⟨_, rfl, (flags_fst _ _).trans (by decide +kernel), rfl⟩
theorem good1 (x y : V) : Good 1 x y := ⟨_, rfl, (flags_fst _ _).trans (by decide +kernel), rfl⟩
theorem good2 (x y : V) : Good 2 x y := ⟨_, rfl, (flags_fst _ _).trans (by decide +kernel), rfl⟩
theorem good3 (x y : V) : Good 3 x y := ⟨_, rfl, (flags_fst _ _).trans (by decide +kernel), rfl⟩
theorem good4 (x y : V) : Good 4 x y := ⟨_, rfl, (flags_fst _ _).trans (by decide +kernel), rfl⟩
theorem good5 (x y : V) : Good 5 x y := ⟨_, rfl, (flags_fst _ _).trans (by decide +kernel), rfl⟩
theorem good6 (x y : V) : Good 6 x y := ⟨_, rfl, (flags_fst _ _).trans (by decide +kernel), rfl⟩
theorem good7 (x y : V) : Good 7 x y := ⟨_, rfl, (flags_fst _ _).trans (by decide +kernel), rfl⟩
theorem good8 (x y : V) : Good 8 x y := ⟨_, rfl, (flags_fst _ _).trans (by decide +kernel), rfl⟩
theorem good9 (x y : V) : Good 9 x y := ⟨_, rfl, (flags_fst _ _).trans (by decide +kernel), rfl⟩
theorem good10 (x y : V) : Good 10 x y := ⟨_, rfl, (flags_fst _ _).trans (by decide +kernel), rfl⟩
theorem good11 (x y : V) : Good 11 x y := ⟨_, rfl, (flags_fst _ _).trans (by decide +kernel), rfl⟩
theorem good12 (x y : V) : Good 12 x y := ⟨_, rfl, (flags_fst _ _).trans (by decide +kernel), rfl⟩
theorem good13 (x y : V) : Good 13 x y := ⟨_, rfl, (flags_fst _ _).trans (by decide +kernel), rfl⟩
theorem good14 (x y : V) : Good 14 x y := ⟨_, rfl, (flags_fst _ _).trans (by decide +kernel), rfl⟩
theorem good15 (x y : V) : Good 15 x y := ⟨_, rfl, (flags_fst _ _).trans (by decide +kernel), rfl⟩
theorem good16 (x y : V) : Good 16 x y := ⟨_, rfl, (flags_fst _ _).trans (by decide +kernel), rfl⟩
theorem good17 (x y : V) : Good 17 x y := ⟨_, rfl, (flags_fst _ _).trans (by decide +kernel), rfl⟩
theorem good {way : Int} (h0 : 0 ≤ way) (h1 : way < 18) (x y : V) : Good way x y := by
  obtain ⟨n, rfl⟩ := Int.eq_ofNat_of_zero_le h0
  match n, h1 with
  | 0, _ => exact good0 x y
  | 1, _ => exact good1 x y
  | 2, _ => exact good2 x y
  | 3, _ => exact good3 x y
  | 4, _ => exact good4 x y
  | 5, _ => exact good5 x y
  | 6, _ => exact good6 x y
  | 7, _ => exact good7 x y
  | 8, _ => exact good8 x y
  | 9, _ => exact good9 x y
  | 10, _ => exact good10 x y
  | 11, _ => exact good11 x y
  | 12, _ => exact good12 x y
  | 13, _ => exact good13 x y
  | 14, _ => exact good14 x y
  | 15, _ => exact good15 x y
  | 16, _ => exact good16 x y
  | 17, _ => exact good17 x y
  | n + 18, h => exact absurd h (by omega)
/-! ### hand -/
def cQ (K : PySem.W.Frag) : Cod (List Int) := ⟨fun G v ns => ∃ a, v = .ref a ∧ SqL K G a (ns.map V.int), fun e ⟨a, h1, h2⟩ => ⟨a, h1, e.sqL h2⟩⟩
theorem all2I {G : Hp} : ∀ ns : List Int, All2 cI G (ns.map V.int) ns
  | [] => trivial
  | n :: ns => ⟨rfl, all2I ns⟩
theorem en_sliceQ {K : PySem.W.Frag} {te : TE} {tl th : TO} {lo hi : Option Int} {σ : L2.St} {G M M1 M2 M3 : Hp} {ns : List Int} (h : Ev te σ G M M1 (cQ K) ns) (hl : EvO tl σ G M1 M2 lo) (hh : EvO th σ G M2 M3 hi) : EvN (tSl (rSlL K) te tl th) σ G M M3 (isL cI (cutD ns lo hi)) := fun G1 H1 e S Q q =>
  h G1 H1 e S _ fun v G2 H2 e2 S2 ⟨a, r1, r2⟩ => hl G2 H2 (e.trans e2) S2 _ fun G3 H3 e3 S3 => hh G3 H3 ((e.trans e2).trans e3) S3 _ fun G4 H4 e4 S4 =>
    ⟨a, ns.map V.int, r1, ((e3.trans e4).trans S4.g).sqL r2, fun p hp => q p _ G4 _ ((e2.trans e3).trans e4) (S4.freshM hp) (S4.newM hp) ⟨_, rfl, cutV_eq (all2I ns)⟩⟩
def hand0 : Hand := ⟨0, 0, 0, 20011, 40009⟩
def sp_l_hand (K : PySem.W.Frag) : Sp := fun vs H Q _ => ∃ (G M : Hp) (v : V) (ns : List Int), vs = [v] ∧ Sta G M H ∧ (cQ K).r G v ns ∧
  ∀ p a s G' H', Le G G' → M p = none → (cL cI).r G' (V.ref a) s → Sta G' (upd M p (handO a hand0)) H' → Q (.ref p) H'
def t_l_hand (K : PySem.W.Frag) : TS := tRet (tLst (tCons (tCB (rListS K) (tCons (tSl (rSlL K) (tVar 0) tNoPart (tPart (tC (.int 63)))) tNil)) (tCons (tC (.int 0)) (tCons (tC (.int 0)) (tCons (tC (.int 0)) (tCons (tC (.int 20011)) (tCons (tC (.int 40009)) tNil)))))))
theorem rd_l_hand {K : PySem.W.Frag} (vs : List V) (H : Hp) (Q : VK) (E : XK) (h : sp_l_hand K vs H Q E) : t_l_hand K { nx := fun _ H' => Q .non H', rt := Q } (start ["_law_script"] vs) H := by
  obtain ⟨G, M, v, ns, rfl, S, hv, q⟩ := h
  show t_l_hand K _ [some v] H
  have ev := ev_frzL (en_list (K := K) (ev_frzL (en_sliceQ (K := K) (te := tVar 0) (σ := [some v]) (G := G) (M := M) (ev_var rfl hv) eo_none (eo_some (ev_int (i := 63))))))
  show (tCB (rListS K) (tCons (tSl (rSlL K) (tVar 0) tNoPart (tPart (tC (.int 63)))) tNil)) [some v] H fun x H1 => [x, .int 0, .int 0, .int 0, .int 20011, .int 40009].length ≤ sizeLine ∧ ∀ p, H1 p = none → Q (.ref p) (upd H1 p (.lst [x, .int 0, .int 0, .int 0, .int 20011, .int 40009]))
  refine ev G H (Le.refl _) S _ fun x G2 H2 e2 S2 r => ⟨by rw [sizeLine_eq]; exact Nat.le_of_ble_eq_true rfl, fun p hp => ?_⟩
  obtain ⟨a, xs, rfl, h2, h3⟩ := r
  exact q p a _ G2 _ e2 (S2.freshM hp) ⟨a, xs, rfl, h2, h3⟩ (S2.newM hp)
theorem ok_l_hand {P : Program} {w : World} {K : PySem.W.Frag} {mg : Str → Option Value} {base : Heap} (T : Tx K mg) : Fn P w K mg base CX0 1 "_law_hand" ["_law_script"] (sp_l_hand K) :=
  fn_by T.g_l_hand T.f_l_hand sc_l_hand (fun vs H Q E h => by obtain ⟨_, _, _, _, e, _⟩ := h; rw [e]; rfl) (fun _ _ _ _ _ _ us hl => match us, hl with | [_], _ => rfl) fun cdv A outer s H vs Q E hr h => ⟨t_l_hand K,
    (pss_one (ps_ret (pe_lst (pa_cons (pe_callTy call_list_of (by rfl) T.b_list (by decide +kernel) (pa_cons (pe_slice sl_list (pv 0) po_none (po_some pe_int)) pa_nil)) (pa_cons pe_int (pa_cons pe_int (pa_cons pe_int (pa_cons pe_int (pa_cons pe_int pa_nil))))))))), rd_l_hand vs H Q E h⟩
/-! ### law -/
/-- one value, at whatever the hand is -/
theorem cv {K : PySem.W.Frag} {σ : L2.St} {G M H : Hp} {p a : Addr} {s : List Int} {hand : Hand} (S : Sta G M H) (hs : σ[1]? = some (some (.ref p))) (hp : M p = some (handO a hand)) (hh : (cL cI).r G (V.ref a) s) (hi : 0 ≤ hand.i) {Q : VK}
    (q : ∀ v G' M' H' hand', Le G G' → Sta G' M' H' → Sub (upd M p (handO a hand')) M' → PV M G' M' v → 0 ≤ hand'.i → Q v H') : tCall (sp_l_value K) [] E0 (tCons (tVar 1) tNil) σ H Q := by
  obtain ⟨i, h1, d1, i1, j0, j1⟩ := draw_ok s hand (n := 1000000000000000000000000000000) hi (by decide) (by decide)
  obtain ⟨nm, h2, d2, i2, ok⟩ := names1_ok s h1 i1
  obtain ⟨k, h3, d4, i3, k0, k1⟩ := draw_ok s h2 (n := 15) i2 (by decide) (by decide)
  have ev : Ev (tVar 1) σ G M M cV (.ref p) := ev_wV hs
  show tVar 1 σ H fun x H1 => sp_l_value K [x] H1 Q E0
  refine ev G H (Le.refl _) S _ fun x G2 H2 e2 S2 r => ?_
  cases r
  refine ⟨G2, M, p, a, s, hand, i, h1, [nm], h2, nm, k, h3, rfl, S2, hp, Cod.mono _ e2 hh, d1, d2, rfl, d4, k0, k1, fla_int (by omega), fla_str (by have := ok.1; omega) (fun c hc => Nat.lt_trans (ok.2 c hc) (by decide)), fun v G' M' H' e S' s' pv => q v G' M' H' h3 (e2.trans e) S' s' pv i3⟩
/-- what the law keeps from turn to turn -/
def Keep (G0 B : Hp) (p a : Addr) (s : List Int) (G M : Hp) : Prop := Le G0 G ∧ (cL cI).r G (V.ref a) s ∧ ∃ hand, M = upd B p (handO a hand) ∧ 0 ≤ hand.i
/-- one turn: right(way, value, value) is true -/
theorem s_turn {K : PySem.W.Frag} {σ : L2.St} {G0 B G M H : Hp} {p a : Addr} {s : List Int} {way : Int} {D : Ends} {u : TS} (S : Sta G M H) (kp : Keep G0 B p a s G M) (h1 : σ[1]? = some (some (.ref p))) (h2 : σ[2]? = some (some (.int way))) (w0 : 0 ≤ way) (w1 : way < 18)
    (q : ∀ G' M' H', Le G G' → Sta G' M' H' → Keep G0 B p a s G' M' → D.nx σ H') :
    tIfS (tNot (tB (tCall (sp_l_right K) [] E0 (tCons (tVar 2) (tCons (tCall (sp_l_value K) [] E0 (tCons (tVar 1) tNil)) (tCons (tCall (sp_l_value K) [] E0 (tCons (tVar 1) tNil)) tNil)))))) u tNext D σ H := by
  obtain ⟨le, hh, hand, rfl, hi⟩ := kp
  have ev : Ev (tVar 2) σ G (upd B p (handO a hand)) (upd B p (handO a hand)) cV (.int way) := ev_wV h2
  show tVar 2 σ H fun x H1 => tCall (sp_l_value K) [] E0 (tCons (tVar 1) tNil) σ H1 fun y H2 => tCall (sp_l_value K) [] E0 (tCons (tVar 1) tNil) σ H2 fun z H3 => sp_l_right K [x, y, z] H3 (fun r H4 => ∃ c, r = .bl c ∧ if (!c) = true then u D σ H4 else D.nx σ H4) E0
  refine ev G H (Le.refl _) S _ fun x G1 H1 e1 S1 r => ?_
  cases r
  have pB : upd B p (handO a hand) p = some (handO a hand) := upd_same
  refine cv S1 h1 upd_same (Cod.mono _ e1 hh) hi fun v1 G2 M2 H2 hb e2 S2 s2 p2 i2 => ?_
  have hp2 : M2 p = some (handO a hb) := s2 _ _ upd_same
  refine cv S2 h1 hp2 (Cod.mono _ (e1.trans e2) hh) i2 fun v2 G3 M3 H3 hc e3 S3 s3 p3 i3 => ?_
  refine ⟨G3, M3, upd B p (handO a hc), way, v1, v2, rfl, S3, ?_, p3.1, fla_int (by omega), good w0 w1 v1 v2, fun b o hbo => ?_, fun v G' H' e' S' r' => ?_⟩
  · refine (p2.1.mono e3).sub fun b o ev hb => s3 b o ?_
    have z := p2.2 b ev
    rw [upd_ne (fun q => by rw [q, pB] at z; cases z)]
    exact hb
  · have inM : ∃ o', upd B p (handO a hand) b = some o' := by
      by_cases z : b = p
      · subst z; exact ⟨_, upd_same⟩
      · rw [upd_ne z] at hbo ⊢; exact ⟨o, hbo⟩
    obtain ⟨o', ho'⟩ := inM
    have inM2 : ∃ o', M2 b = some o' := by
      by_cases z : b = p
      · subst z; exact ⟨_, hp2⟩
      · refine ⟨o', s2 b o' ?_⟩
        rw [upd_ne z] at ho' ⊢
        rw [upd_ne z]
        exact ho'
    obtain ⟨o2, ho2⟩ := inM2
    refine ⟨?_, fun ev => ?_, fun ev => ?_⟩
    · by_cases z : b = p
      · subst z; rw [upd_same] at hbo; cases hbo; exact s3 _ _ upd_same
      · refine s3 b o ?_
        rw [upd_ne z] at hbo ⊢
        refine s2 b o ?_
        rw [upd_ne z, upd_ne z]
        exact hbo
    · have z := p2.2 b ev.symm
      rw [ho'] at z
      cases z
    · have z := p3.2 b ev.symm
      rw [ho2] at z
      cases z
  · cases r'
    exact ⟨true, rfl, q G' _ H' (((e1.trans e2).trans e3).trans e') S' ⟨((le.trans e1).trans (e2.trans e3)).trans e', Cod.mono _ ((e1.trans e2).trans (e3.trans e')) hh, hc, rfl, i3⟩⟩
theorem s_asgC1 {sp : Sp} {σ : L2.St} {G M H : Hp} {i j : Nat} {x : V} {D : Ends} {u : TS} (S : Sta G M H) (hs : σ[i]? = some (some x)) (k : ∀ G1 H1, Le G G1 → Sta G1 M H1 → sp [x] H1 (fun z H2 => u D (σ.set j (some z)) H2) E0) : tSeq (tAsg (tCall sp [] E0 (tCons (tVar i) tNil)) (gName j)) u D σ H := by
  have ev : Ev (tVar i) σ G M M cV x := ev_wV hs
  show tVar i σ H fun x H1 => sp [x] H1 (fun z H2 => u D (σ.set j (some z)) H2) E0
  refine ev G H (Le.refl _) S _ fun y G1 H1 e S1 r => ?_
  cases r
  exact k G1 H1 e S1
def sp_l_law (K : PySem.W.Frag) : Sp := fun vs H Q _ => ∃ (a : Addr) (ns : List Int), vs = [V.ref a] ∧ SqL K H a (ns.map V.int) ∧ ∀ H', Q (.bl true) H'
def t_l_law (K : PySem.W.Frag) : TS :=
  (tSeq (tAsg (tCall (sp_l_hand K) [] E0 (tCons (tVar 0) tNil)) (gName 1))
  (tSeq (tFor (iRng1 (tCons (tC (.int 18)) tNil)) (gName 2) (tFor (iRng1 (tCons (tC (.int 2)) tNil)) (gName 3) (tIfS (tNot (tB (tCall (sp_l_right K) [] E0 (tCons (tVar 2) (tCons (tCall (sp_l_value K) [] E0 (tCons (tVar 1) tNil)) (tCons (tCall (sp_l_value K) [] E0 (tCons (tVar 1) tNil)) tNil)))))) (tRet (tC (.bl false))) tNext)))
  (tSeq (tAsg (tNew0 K "ClubError") (gName 4))
  (tRet (tAndV (tOp (rDat (List Int) fun d e => decide (d = e)) (tCall (sp_l_flags K) [] E0 (tCons (tVar 4) tNil)) (tLst tNil)) (tCB (rIsX K) (tCons (tVar 4) (tCons (tC (.ty "ValueError")) tNil))))))))
theorem rd_l_law {K : PySem.W.Frag} {mg : Str → Option Value} (T : Tx K mg) (vs : List V) (H : Hp) (Q : VK) (E : XK) (h : sp_l_law K vs H Q E) : t_l_law K { nx := fun _ H' => Q .non H', rt := Q } (start ["_law_script", "_law_hand_here", "_law_way", "_law_turn", "_law_plain"] vs) H := by
  obtain ⟨a0, ns, rfl, hq, q⟩ := h
  show t_l_law K _ [some (V.ref a0), none, none, none, none] H
  unfold t_l_law
  have S0 : Sta H (fun _ => none) H := ⟨Le.refl _, fun _ _ z => (nomatch z), fun _ _ z => (nomatch z)⟩
  refine s_asgC1 (x := .ref a0) S0 rfl fun G1 H1 e1 S1 => ?_
  refine ⟨G1, fun _ => none, _, ns, rfl, S1, ⟨a0, rfl, e1.sqL hq⟩, fun p a s G2 H2 e2 hM hh S2 => ?_⟩
  show tSeq (tFor _ _ _) _ _ [some (V.ref a0), some (V.ref p), none, none, none] H2
  refine s_forOS (ew_range1P (n := 18) (ev_int (i := 18)) rfl) S2 (f := fun (_ : Unit) (x : Int) => if 0 ≤ x ∧ x < 18 then some () else none) (t0 := ()) (t1 := ()) (by decide +kernel)
    (fun _ G' M' σ' => Keep G2 (fun _ => none) p a s G' M' ∧ ∃ o2 o3, σ' = [some (V.ref a0), some (V.ref p), o2, o3, none])
    (fun G' e => ⟨⟨e, Cod.mono _ e hh, _, rfl, by decide⟩, _, _, rfl⟩) (fun _ t' way v Ga G3 M3 H3 σ3 e0 e3 S3 hR hx hm => ?_) (fun G3 M3 H3 σ3 e3 S3 hR => ?_)
  · obtain ⟨kp, o2, o3, rfl⟩ := hR
    have hm' : (if 0 ≤ way ∧ way < 18 then some () else none) = some t' := hm
    obtain ⟨⟨w0, w1⟩, rfl⟩ := ite_some hm'
    cases hx
    show tFor _ _ _ _ [some (V.ref a0), some (V.ref p), some (V.int way), o3, none] H3
    refine s_forO (ew_range1P (n := 2) (ev_int (i := 2)) rfl) S3 (f := fun (_ : Unit) (_ : Int) => some ()) (t0 := ()) (t1 := ()) rfl
      (fun _ G' M' σ' => Keep G2 (fun _ => none) p a s G' M' ∧ Le G3 G' ∧ ∃ o3, σ' = [some (V.ref a0), some (V.ref p), some (V.int way), o3, none])
      (fun G' e => ⟨⟨(kp.1.trans e3).trans e, Cod.mono _ (e3.trans e) kp.2.1, kp.2.2⟩, e, _, rfl⟩) (fun _ t' x v Gb G4 M4 H4 σ4 e0 e4 S4 hR hx hm => ?_) (fun G4 M4 H4 σ4 e4 S4 hR => ?_)
    · obtain ⟨kp, l3, o3, rfl⟩ := hR
      cases hx
      show tIfS _ _ _ _ [some (V.ref a0), some (V.ref p), some (V.int way), some (V.int x), none] H4
      refine s_turn (G0 := G2) (B := fun _ => none) (p := p) (a := a) (s := s) S4 ⟨kp.1.trans e4, Cod.mono _ e4 kp.2.1, kp.2.2⟩ rfl rfl w0 w1 fun G' M' H' e S kp' => ?_
      exact ⟨G', M', e4.trans e, S, kp', (l3.trans e4).trans e, _, rfl⟩
    · obtain ⟨kp, l3, o3, rfl⟩ := hR
      exact ⟨G4, M4, e3.trans e4, S4, kp, _, _, rfl⟩
  · obtain ⟨kp, o2, o3, rfl⟩ := hR
    refine s_asgS (c := cX K) (d := (("ClubError" : Str), [])) (ev_new0 (n := "ClubError") (by decide)) S3 fun v_e G4 H4 e4 S4 h_e => ?_
    have z : m_l_flags (("ClubError" : Str), []) = some [] := by decide +kernel
    refine s_ret (ev_andVT (ev_dat (ec1 (use_l_flags z) (ev_var rfl h_e)) (ev_frzL (en_lst (ei_nil (c := cI)) (by decide)))) (ev_isV T.xk (ev_var rfl h_e))) S4 fun v G5 H5 e5 S5 r => ?_
    have r' : v = .bl true := r
    rw [r']
    exact q H5
theorem pe_excT {X : Cx} {n m : Str} {j : Nat} {p p2 pos : Pos} (q : PySem.W.excIn X.K (He.ga X.K n) [.type "ValueError", .type "Exception", .type "BaseException", .type "object"] "ValueError.__new__" = true) (gC : X.mg n = some (.ref (He.ga X.K n))) (kC : PySem.W.keepIn X.K (.ref (He.ga X.K n)) = true) (hg : Gl X n)
    (hdb : (n == ("__debug__" : Str)) = false := by decide) : PE X (.Call (.Name n p) [.Constant (.str m) j p2] [] pos) (tNew0 X.K n) :=
  pe_exc1 (ta := tC (.str m)) F.excBase_ValueError q gC kC hg pe_str rfl hdb
theorem ok_l_law {P : Program} {w : World} {K : PySem.W.Frag} {mg : Str → Option Value} {base : Heap} (T : Tx K mg) (F_hand : Fn P w K mg base CX0 1 "_law_hand" ["_law_script"] (sp_l_hand K)) (F_value : Fn P w K mg base CX0 5 "_law_value" ["_law_hand_here"] (sp_l_value K))
    (F_flags : Fn P w K mg base CX0 1 "_law_flags" ["_law_e"] (sp_l_flags K)) (F_right : FnG P w K mg base CX0 4 "_law_right" ["_law_way", "_law_thing", "_law_other"] (sp_l_right K)) {fd : FuncData} (FD : FunD K "law" "law" (defArgs s_law) (defBody s_law) (defScope s_law) [] [] (He.ga K "law") fd) : FnOkG P w K mg base CX0 6 (He.ga K "law") fd ["_law_script"] (sp_l_law K) :=
  fnok_byG FD sc_law (fun vs H Q E h => by obtain ⟨_, _, e, _⟩ := h; rw [e]; rfl) fun cdv A outer s H vs Q E hr hg h => ⟨t_l_law K,
    (pss_cons (ps_set (i := 1) sc_law.nd rfl (Or.inl rfl) (pe_callF F_hand (hr.mono (by decide)) pass0 (pa_cons (pv 0) pa_nil)))
    (pss_cons (ps_for PassesOwn.never rfl (pi_range1 rfl T.b_range (pa_cons pe_int pa_nil)) (pg_name (i := 2) sc_law.nd rfl (Or.inl rfl)) (pss_one 
      (ps_for PassesOwn.never rfl (pi_range1 rfl T.b_range (pa_cons pe_int pa_nil)) (pg_name (i := 3) sc_law.nd rfl (Or.inl rfl)) (pss_one 
        (ps_if (pt_not (pt_val (pe_callG F_right (hr.mono (by decide)) hg pass0 (pa_cons (pv 2) (pa_cons (pe_callF F_value (hr.mono (by decide)) pass0 (pa_cons (pv 1) pa_nil)) (pa_cons (pe_callF F_value (hr.mono (by decide)) pass0 (pa_cons (pv 1) pa_nil)) pa_nil)))))) (pss_one (ps_ret pe_bl)) pss_nil)))))
    (pss_cons (ps_set (i := 4) sc_law.nd rfl (Or.inl rfl) (pe_excT T.xi_ClubError T.g_ClubError T.k_ClubError rfl))
    (pss_one (ps_ret (pe_and (pe_cmpR (op_eqT (List Int) hr.units (by decide)) (pe_callF F_flags (hr.mono (by decide)) pass0 (pa_cons (pv 4) pa_nil)) (pe_lst pa_nil) (nomark _)) (pe_one (pe_callB call_isX (by rfl) T.b_isinstance (by decide +kernel) (pa_cons (pv 4) (pa_cons (pe_bltn rfl T.b_ValueError (by decide +kernel) rfl) pa_nil)))))))))), rd_l_law T vs H Q E h⟩
/-! ### the classes, as one Bool over the written part -/
def oexB (K : PySem.W.Frag) (C : Addr) : Bool := (match K.lookup C with
  | some ⟨.type "type", _, .cls cd, sl⟩ => (match cd.mro, sl.toList with
    | .ref C' :: bm, [_, _, _, _, some (.builtin m), _] => C' == C && m == "ValueError.__new__" && !cd.hasDel && cd.hasDict && HandSPX.refsVE bm
    | _, _ => false)
  | _ => false) && decide (PySem.W.findIn K (.ref C) "__setattr__" = some (some (.builtin "object.__setattr__"))) && decide (PySem.W.subIn K (.ref C) (.type "BaseException") = some true) && decide (PySem.W.typeIn K (.ref C) = some (.type "type")) && PySem.W.keepIn K (.ref C)
theorem oexB_ok {K : PySem.W.Frag} {C : Addr} (h : oexB K C = true) : OexC K C := by
  unfold oexB at h
  simp only [Bool.and_eq_true, decide_eq_true_eq] at h
  obtain ⟨⟨⟨⟨q, h1⟩, h2⟩, h3⟩, h4⟩ := h
  refine ⟨?_, h1, h2, h3, h4⟩
  split at q
  · rename_i dd cd sl ho
    split at q
    · rename_i C' bm k0 k1 k2 k3 n k5 hm hs
      simp only [Bool.and_eq_true, beq_iff_eq, Bool.not_eq_true'] at q
      obtain ⟨⟨⟨⟨rfl, rfl⟩, hdel⟩, hdc⟩, hv⟩ := q
      obtain ⟨nm, bs, mro, ns, qn, hd, sn, sub, ab, col, del⟩ := cd
      dsimp only at hm hdel hdc
      subst hm hdel hdc
      have hsl : sl = #[k0, k1, k2, k3, some (.builtin "ValueError.__new__"), k5] := by
        obtain ⟨l⟩ := sl
        simp only at hs
        rw [hs]
      subst hsl
      exact ⟨nm, qn, ns, bs, bm, sn, sub, ab, col, dd, k0, k1, k2, k3, k5, ho, hv⟩
    · cases q
  · cases q
def clsB (K : PySem.W.Frag) (C : Addr) (n : Str) : Bool :=
  decide (PySem.W.findIn K (.ref C) "__getattribute__" = some (some (.builtin "BaseException.__getattribute__"))) && decide (PySem.W.findIn K (.ref C) "__getattr__" = some none) && decide (PySem.W.subIn K (.ref C) (.type "BaseException") = some true) && PySem.W.hasDictIn K C &&
  decide (PySem.W.findIn K (.ref C) "__class__" = some (some (.builtin "object.__class__"))) && decide (PySem.W.specialIn K (.builtin "object.__class__") "__get__" = some (some (.builtin "getset_descriptor.__get__"))) && decide (PySem.W.takesIn K (.builtin "object.__class__") = some true) &&
  decide (PySem.W.mroIn K C (.type "object") = some true) && (xFields.all fun f => decide (PySem.W.findIn K (.ref C) f = some none)) && (xNames.all fun c => decide (PySem.W.kitOne K (.ref C) (.ref (He.ga K c)) = some (isXB n c))) && decide (PySem.W.kitOne K (.ref C) (.type "ValueError") = some true)
theorem clsB_ok {K : PySem.W.Frag} (h : (xNames.all fun n => clsB K (He.ga K n) n) = true) : XFacts K := by
  have k : ∀ n ∈ xNames, _ := fun n hn => List.all_eq_true.mp h n hn
  unfold clsB at k
  simp only [Bool.and_eq_true, decide_eq_true_eq, List.all_eq_true] at k
  exact ⟨fun n hn => let ⟨⟨⟨⟨⟨⟨⟨⟨⟨⟨a, b⟩, c⟩, d⟩, e⟩, f⟩, g⟩, i⟩, _⟩, _⟩, _⟩ := k n hn; ⟨a, b, c, d, e, f, g, i⟩,
    fun n hn => let ⟨⟨⟨⟨⟨⟨⟨⟨⟨⟨a, b⟩, c⟩, d⟩, _⟩, _⟩, _⟩, _⟩, _⟩, _⟩, _⟩ := k n hn; ⟨a, b, c, d⟩,
    fun n hn f hf => let ⟨⟨⟨_, j⟩, _⟩, _⟩ := k n hn; j f hf,
    fun n hn c hc => let ⟨⟨_, j⟩, _⟩ := k n hn; j c hc,
    fun n hn => let ⟨_, j⟩ := k n hn; j⟩
def iniNames : List Str := ["Wrong", "BadItem", "NoPlayer", "Known", "NoMeeting", "Broke", "Stopped", "Over", "Refused", "Barred", "Impossible", "TooMany"]
def iniB (K : PySem.W.Frag) (n : Str) : Bool := oexB K (He.ga K n) && decide (PySem.W.findIn K (.ref (He.ga K n)) "__init__" = some (some (.ref (He.fAd K (n, some "__init__"))))) && decide (PySem.W.typeIn K (.ref (He.fAd K (n, some "__init__"))) = some (.type "function"))
def exB (K : PySem.W.Frag) : Bool := (xNames.all fun n => clsB K (He.ga K n) n) && (iniNames.all fun n => iniB K n)
theorem iniB_ok {K : PySem.W.Frag} {n : Str} (h : iniB K n = true) : OexC K (He.ga K n) ∧ PySem.W.findIn K (.ref (He.ga K n)) "__init__" = some (some (.ref (He.fAd K (n, some "__init__")))) ∧ PySem.W.typeIn K (.ref (He.fAd K (n, some "__init__"))) = some (.type "function") := by
  unfold iniB at h
  simp only [Bool.and_eq_true, decide_eq_true_eq] at h
  exact ⟨oexB_ok h.1.1, h.1.2, h.2⟩
/-- an own __init__ of one field, of two -/
theorem own1 {P : Program} {w : World} {K : PySem.W.Frag} {mg : Str → Option Value} {base : Heap} {n f x qn : Str} {st : Stmt} (hn : n ∈ xNames) (hf : f ∈ xFields) (xk : XFacts K) (g : mg n = some (.ref (He.ga K n))) (hi : iniB K n = true)
    (F : ∃ fd, FunD K "__init__" qn (defArgs st) (defBody st) (defScope st) [] [] (He.fAd K (n, some "__init__")) fd) (S : FnScope ["self", x] ["self", x] (defScope st))
    (hb : ∀ (kV doc pm : Value) (an : Option Addr) (cdv ct : Value) (us : List Value), us.length = 2 → bindArgs (PySem.W.fnOf "__init__" qn (defArgs st) (defBody st) (defScope st) .none kV doc pm an cdv ct) ⟨us, []⟩ = pure ((["self", x] : List Str).zip us))
    (hd : ∀ (cdv : Value) (A : Around) (outer : List Env) (s : Shared) (H : Hp) (E : XK), PSs (cxOf CX0 P w K mg base ["self", x] qn (defScope st) (He.fAd K (n, some "__init__")) cdv A outer s H E).nox (defBody st) (tOst K f (tVar 0) (tVar 1))) : OwnX P w K mg base 1 n [f] := by
  obtain ⟨T, i1, i2⟩ := iniB_ok hi
  obtain ⟨fd, F⟩ := F
  refine ⟨⟨_, fd, ["self", x], g, T, i1, i2, F.bindsN hb, F.ok S (fun vs H Q E h => ?_) fun cdv A outer s H vs Q E hr h => ?_⟩, Nat.le_of_ble_eq_true rfl, fun z hz => ?_⟩
  · obtain ⟨a, xs, rfl, hl, _⟩ := h
    simp at hl ⊢
    exact hl
  · obtain ⟨a, xs, rfl, hl, ha, _, _, q⟩ := h
    obtain ⟨y, rfl⟩ : ∃ y, xs = [y] := by
      match xs, hl with
      | [y], _ => exact ⟨y, rfl⟩
    refine ⟨_, (hd cdv A outer s H E).nox, ?_⟩
    exact ⟨y, rfl, .ref a, rfl, a, _, rfl, T, xk.no n hn f hf, .inl ⟨ha, fun dx hx ne => q dx hx ne⟩⟩
  · rw [List.mem_singleton.mp hz]
    exact xk.no n hn f hf
theorem own2 {P : Program} {w : World} {K : PySem.W.Frag} {mg : Str → Option Value} {base : Heap} {n f g x y qn : Str} {st : Stmt} (hn : n ∈ xNames) (hf : f ∈ xFields) (hg : g ∈ xFields) (xk : XFacts K) (gm : mg n = some (.ref (He.ga K n))) (hi : iniB K n = true)
    (F : ∃ fd, FunD K "__init__" qn (defArgs st) (defBody st) (defScope st) [] [] (He.fAd K (n, some "__init__")) fd) (S : FnScope ["self", x, y] ["self", x, y] (defScope st))
    (hb : ∀ (kV doc pm : Value) (an : Option Addr) (cdv ct : Value) (us : List Value), us.length = 3 → bindArgs (PySem.W.fnOf "__init__" qn (defArgs st) (defBody st) (defScope st) .none kV doc pm an cdv ct) ⟨us, []⟩ = pure ((["self", x, y] : List Str).zip us))
    (hd : ∀ (cdv : Value) (A : Around) (outer : List Env) (s : Shared) (H : Hp) (E : XK), PSs (cxOf CX0 P w K mg base ["self", x, y] qn (defScope st) (He.fAd K (n, some "__init__")) cdv A outer s H E).nox (defBody st) (tSeq (tOst K f (tVar 0) (tVar 1)) (tOst K g (tVar 0) (tVar 2)))) : OwnX P w K mg base 1 n [f, g] := by
  obtain ⟨T, i1, i2⟩ := iniB_ok hi
  obtain ⟨fd, F⟩ := F
  refine ⟨⟨_, fd, ["self", x, y], gm, T, i1, i2, F.bindsN hb, F.ok S (fun vs H Q E h => ?_) fun cdv A outer s H vs Q E hr h => ?_⟩, Nat.le_of_ble_eq_true rfl, fun z hz => ?_⟩
  · obtain ⟨a, xs, rfl, hl, _⟩ := h
    simp at hl ⊢
    exact hl
  · obtain ⟨a, xs, rfl, hl, ha, _, _, q⟩ := h
    obtain ⟨u, v, rfl⟩ : ∃ u v, xs = [u, v] := by
      match xs, hl with
      | [u, v], _ => exact ⟨u, v, rfl⟩
    refine ⟨_, (hd cdv A outer s H E).nox, ?_⟩
    refine ⟨u, rfl, .ref a, rfl, a, _, rfl, T, xk.no n hn f hf, .inl ⟨ha, fun dx hx ne => ?_⟩⟩
    refine ⟨v, rfl, .ref a, rfl, a, _, rfl, T, xk.no n hn g hg, .inr ⟨dx, [(f, u)], upd_same, by rw [upd_ne ne]; exact upd_same, by show 1 ≤ 900; decide, ?_⟩⟩
    have z := q dx hx ne
    rw [upd_in1 ne]
    exact z
  · rcases List.mem_cons.mp hz with rfl | hz
    · exact xk.no n hn _ hf
    · rw [List.mem_singleton.mp hz]
      exact xk.no n hn g hg
/-- the head's hook: facts by names, and one Bool more -/
def hookE (n : Nat) (fa : List He.Fa) (fn : List He.DefD) (ex : PySem.W.Frag → Bool) : PySem.W.Hook where
  α := He.AlD × Bool
  obs := fun s => (He.obsDG n fa fn s.heap.get?, ex (He.frG s.heap.get? (He.asD s.heap.get? n)))
  val := fun _ => (He.valD fn, true)
  says := fun _ h => ∃ K : PySem.W.Frag, K.In h ∧ He.SaysD fa fn K ∧ ex K = true
  of := fun _ _ e => ⟨_, He.frG_in, congrArg (fun z : He.AlD × Bool => z.1) e, congrArg (fun z : He.AlD × Bool => z.2) e⟩
  keeps := fun _ _ _ ⟨K, hK, c⟩ k => ⟨K, PySem.W.Frag.In.keeps hK k, c⟩
theorem obsE_eq {n : Nat} {fa : List He.Fa} {fn : List He.DefD} {ex : PySem.W.Frag → Bool} {g : Addr → Option Obj} {s : Shared} (h : ∀ a, g a = s.heap.get? a) : (He.obsDG n fa fn g, ex (He.frG g (He.asD g n))) = (hookE n fa fn ex).obs s := by
  have e : g = s.heap.get? := funext h
  rw [e] <;> rfl

/-! ### the head -/
def fa : List He.Fa := ([.glo "ClubError", .glo "Wrong", .glo "BadItem", .glo "NoPlayer", .glo "Known", .glo "NoMeeting", .glo "Broke", .glo "Stopped", .glo "Over", .glo "Unplayable", .glo "Refused", .glo "Barred", .glo "Unlike", .glo "NotLeft", .glo "Impossible", .glo "TooMany", .glo "Nothing", .glo "NoText", .glo "NoCommand", .glo "_law_hand", .glo "_law_step", .glo "_law_take", .glo "_law_draw", .glo "_law_alike", .glo "_law_names", .glo "_law_value", .glo "_law_made", .glo "_law_flags", .glo "_law_fields", .glo "_law_right"] : List He.Fa) ++ ([.glo "law", .free "ValueError", .free "abs", .free "dict", .free "int", .free "isinstance", .free "len", .free "list", .free "range", .free "repr", .exc "ClubError", .exc "NoCommand", .exc "NoText", .exc "NotLeft", .exc "Nothing", .exc "Unlike", .exc "Unplayable"] : List He.Fa)
def fn : List He.DefD := ([⟨("Wrong", some "__init__"), "__init__", "Wrong.__init__", defArgs (inClass (top 2) 0), defBody (inClass (top 2) 0), defScope (inClass (top 2) 0), [], []⟩, ⟨("BadItem", some "__init__"), "__init__", "BadItem.__init__", defArgs (inClass (top 3) 0), defBody (inClass (top 3) 0), defScope (inClass (top 3) 0), [], []⟩, ⟨("NoPlayer", some "__init__"), "__init__", "NoPlayer.__init__", defArgs (inClass (top 4) 0), defBody (inClass (top 4) 0), defScope (inClass (top 4) 0), [], []⟩, ⟨("Known", some "__init__"), "__init__", "Known.__init__", defArgs (inClass (top 5) 0), defBody (inClass (top 5) 0), defScope (inClass (top 5) 0), [], []⟩, ⟨("NoMeeting", some "__init__"), "__init__", "NoMeeting.__init__", defArgs (inClass (top 6) 0), defBody (inClass (top 6) 0), defScope (inClass (top 6) 0), [], []⟩, ⟨("Broke", some "__init__"), "__init__", "Broke.__init__", defArgs (inClass (top 7) 0), defBody (inClass (top 7) 0), defScope (inClass (top 7) 0), [], []⟩, ⟨("Stopped", some "__init__"), "__init__", "Stopped.__init__", defArgs (inClass (top 8) 0), defBody (inClass (top 8) 0), defScope (inClass (top 8) 0), [], []⟩, ⟨("Over", some "__init__"), "__init__", "Over.__init__", defArgs (inClass (top 9) 0), defBody (inClass (top 9) 0), defScope (inClass (top 9) 0), [], []⟩, ⟨("Refused", some "__init__"), "__init__", "Refused.__init__", defArgs (inClass (top 11) 0), defBody (inClass (top 11) 0), defScope (inClass (top 11) 0), [], []⟩, ⟨("Barred", some "__init__"), "__init__", "Barred.__init__", defArgs (inClass (top 12) 0), defBody (inClass (top 12) 0), defScope (inClass (top 12) 0), [], []⟩, ⟨("Impossible", some "__init__"), "__init__", "Impossible.__init__", defArgs (inClass (top 15) 0), defBody (inClass (top 15) 0), defScope (inClass (top 15) 0), [], []⟩, ⟨("TooMany", some "__init__"), "__init__", "TooMany.__init__", defArgs (inClass (top 16) 0), defBody (inClass (top 16) 0), defScope (inClass (top 16) 0), [], []⟩, ⟨("_law_hand", none), "_law_hand", "_law_hand", defArgs (top 21), defBody (top 21), defScope (top 21), [], []⟩, ⟨("_law_step", none), "_law_step", "_law_step", defArgs (top 22), defBody (top 22), defScope (top 22), [], []⟩, ⟨("_law_take", none), "_law_take", "_law_take", defArgs (top 23), defBody (top 23), defScope (top 23), [], []⟩, ⟨("_law_draw", none), "_law_draw", "_law_draw", defArgs (top 24), defBody (top 24), defScope (top 24), [], []⟩, ⟨("_law_alike", none), "_law_alike", "_law_alike", defArgs (top 25), defBody (top 25), defScope (top 25), [], []⟩, ⟨("_law_names", none), "_law_names", "_law_names", defArgs (top 26), defBody (top 26), defScope (top 26), [], []⟩, ⟨("_law_value", none), "_law_value", "_law_value", defArgs (top 27), defBody (top 27), defScope (top 27), [], []⟩, ⟨("_law_made", none), "_law_made", "_law_made", defArgs (top 28), defBody (top 28), defScope (top 28), [], []⟩, ⟨("_law_flags", none), "_law_flags", "_law_flags", defArgs (top 29), defBody (top 29), defScope (top 29), [], []⟩, ⟨("_law_fields", none), "_law_fields", "_law_fields", defArgs (top 30), defBody (top 30), defScope (top 30), [], []⟩, ⟨("_law_right", none), "_law_right", "_law_right", defArgs (top 31), defBody (top 31), defScope (top 31), [], []⟩, ⟨("law", none), "law", "law", defArgs (top 32), defBody (top 32), defScope (top 32), [], []⟩] : List He.DefD)
def names : List Str := (["ClubError", "Wrong", "BadItem", "NoPlayer", "Known", "NoMeeting", "Broke", "Stopped", "Over", "Unplayable", "Refused", "Barred", "Unlike", "NotLeft", "Impossible", "TooMany", "Nothing", "NoText", "NoCommand", "_law_hand", "_law_step", "_law_take", "_law_draw", "_law_alike", "_law_names", "_law_value", "_law_made", "_law_flags", "_law_fields", "_law_right"] : List Str)
abbrev R16 : PySem.W.OpenRow := PySem.W.OpenLaw.row PySem.Challenge.rw_eitherpays_k16_errors_apart
abbrev hk : PySem.W.Hook := hookE 6 fa fn exB
def ob (s : PySem.W.SharedT) : He.AlD × Bool := (He.obsDG 6 fa fn (HandSHeadRun.getT s), exB (He.frG (HandSHeadRun.getT s) (He.asD (HandSHeadRun.getT s) 6)))
theorem ob_eq (s : PySem.W.SharedT) : ob s = hk.obs s.abs := obsE_eq (HandSHeadRun.getT_eq s)
theorem run (w : World) : HandSHeadRun.RunEq R16 (PySem.W.view R16.prog [32]) hk ob 100000 names w := by
  intro os
  kernel_rfl
theorem tx_ok {K : PySem.W.Frag} {h : Heap} {mg : Str → Option Value} (X : K.In h) (G : h.Ns mainGlobals mg) (c : He.SaysD fa fn K) (xf : XFacts K) : Tx K mg := ⟨He.glo_ok X G (c.fact 20 (f := .glo "_law_step") rfl),
  c.def_ 13 rfl,
  He.glo_ok X G (c.fact 21 (f := .glo "_law_take") rfl),
  c.def_ 14 rfl,
  He.glo_ok X G (c.fact 22 (f := .glo "_law_draw") rfl),
  c.def_ 15 rfl,
  He.glo_ok X G (c.fact 24 (f := .glo "_law_names") rfl),
  c.def_ 17 rfl,
  He.glo_ok X G (c.fact 26 (f := .glo "_law_made") rfl),
  c.def_ 19 rfl,
  He.glo_ok X G (c.fact 27 (f := .glo "_law_flags") rfl),
  c.def_ 20 rfl,
  He.glo_ok X G (c.fact 28 (f := .glo "_law_fields") rfl),
  c.def_ 21 rfl,
  He.glo_ok X G (c.fact 23 (f := .glo "_law_alike") rfl),
  c.def_ 16 rfl,
  He.glo_ok X G (c.fact 29 (f := .glo "_law_right") rfl),
  c.def_ 22 rfl,
  He.glo_ok X G (c.fact 25 (f := .glo "_law_value") rfl),
  c.def_ 18 rfl,
  He.glo_ok X G (c.fact 19 (f := .glo "_law_hand") rfl),
  c.def_ 12 rfl,
  He.glo_ok X G (c.fact 30 (f := .glo "law") rfl),
  c.def_ 23 rfl,
  He.glo_ok X G (c.fact 2 (f := .glo "BadItem") rfl),
  He.glo_ok X G (c.fact 11 (f := .glo "Barred") rfl),
  He.glo_ok X G (c.fact 6 (f := .glo "Broke") rfl),
  He.glo_ok X G (c.fact 0 (f := .glo "ClubError") rfl),
  He.glo_ok X G (c.fact 14 (f := .glo "Impossible") rfl),
  He.glo_ok X G (c.fact 4 (f := .glo "Known") rfl),
  He.glo_ok X G (c.fact 18 (f := .glo "NoCommand") rfl),
  He.glo_ok X G (c.fact 5 (f := .glo "NoMeeting") rfl),
  He.glo_ok X G (c.fact 3 (f := .glo "NoPlayer") rfl),
  He.glo_ok X G (c.fact 17 (f := .glo "NoText") rfl),
  He.glo_ok X G (c.fact 13 (f := .glo "NotLeft") rfl),
  He.glo_ok X G (c.fact 16 (f := .glo "Nothing") rfl),
  He.glo_ok X G (c.fact 8 (f := .glo "Over") rfl),
  He.glo_ok X G (c.fact 10 (f := .glo "Refused") rfl),
  He.glo_ok X G (c.fact 7 (f := .glo "Stopped") rfl),
  He.glo_ok X G (c.fact 15 (f := .glo "TooMany") rfl),
  He.glo_ok X G (c.fact 12 (f := .glo "Unlike") rfl),
  He.glo_ok X G (c.fact 9 (f := .glo "Unplayable") rfl),
  He.glo_ok X G (c.fact 1 (f := .glo "Wrong") rfl),
  (He.exc_ok (c.fact 40 (f := .exc "ClubError") rfl)).1,
  (He.exc_ok (c.fact 40 (f := .exc "ClubError") rfl)).2.1,
  (He.exc_ok (c.fact 41 (f := .exc "NoCommand") rfl)).1,
  (He.exc_ok (c.fact 41 (f := .exc "NoCommand") rfl)).2.1,
  (He.exc_ok (c.fact 42 (f := .exc "NoText") rfl)).1,
  (He.exc_ok (c.fact 42 (f := .exc "NoText") rfl)).2.1,
  (He.exc_ok (c.fact 43 (f := .exc "NotLeft") rfl)).1,
  (He.exc_ok (c.fact 43 (f := .exc "NotLeft") rfl)).2.1,
  (He.exc_ok (c.fact 44 (f := .exc "Nothing") rfl)).1,
  (He.exc_ok (c.fact 44 (f := .exc "Nothing") rfl)).2.1,
  (He.exc_ok (c.fact 45 (f := .exc "Unlike") rfl)).1,
  (He.exc_ok (c.fact 45 (f := .exc "Unlike") rfl)).2.1,
  (He.exc_ok (c.fact 46 (f := .exc "Unplayable") rfl)).1,
  (He.exc_ok (c.fact 46 (f := .exc "Unplayable") rfl)).2.1,
  xf,
  He.free_ok X G (c.fact 31 (f := .free "ValueError") rfl),
  He.free_ok X G (c.fact 32 (f := .free "abs") rfl),
  He.free_ok X G (c.fact 33 (f := .free "dict") rfl),
  He.free_ok X G (c.fact 34 (f := .free "int") rfl),
  He.free_ok X G (c.fact 35 (f := .free "isinstance") rfl),
  He.free_ok X G (c.fact 36 (f := .free "len") rfl),
  He.free_ok X G (c.fact 37 (f := .free "list") rfl),
  He.free_ok X G (c.fact 38 (f := .free "range") rfl),
  He.free_ok X G (c.fact 39 (f := .free "repr") rfl)⟩
theorem exB_cls {K : PySem.W.Frag} (h : exB K = true) : XFacts K := clsB_ok (Bool.and_eq_true_iff.mp h).1
theorem exB_ini {K : PySem.W.Frag} (h : exB K = true) {n : Str} (hn : n ∈ iniNames) : iniB K n = true := List.all_eq_true.mp (Bool.and_eq_true_iff.mp h).2 n hn
theorem own_Wrong {P : Program} {w : World} {K : PySem.W.Frag} {mg : Str → Option Value} {base : Heap} (T : Tx K mg) (c : He.SaysD fa fn K) (e : exB K = true) : OwnX P w K mg base 1 "Wrong" ["place"] :=
  own1 (n := "Wrong") (qn := "Wrong.__init__") (st := inClass (top 2) 0) (by decide) (by decide) T.xk T.g_Wrong (exB_ini e (by decide)) (c.def_ 0 rfl) ⟨rfl, rfl, rfl, by decide +kernel, rfl, by decide +kernel, by decide +kernel⟩
    (fun _ _ _ _ _ _ us hl => match us, hl with | [_, _], _ => rfl) fun cdv A outer s H E => (pss_one (ps_ost (pv 0) (pv 1)))
theorem own_BadItem {P : Program} {w : World} {K : PySem.W.Frag} {mg : Str → Option Value} {base : Heap} (T : Tx K mg) (c : He.SaysD fa fn K) (e : exB K = true) : OwnX P w K mg base 1 "BadItem" ["at"] :=
  own1 (n := "BadItem") (qn := "BadItem.__init__") (st := inClass (top 3) 0) (by decide) (by decide) T.xk T.g_BadItem (exB_ini e (by decide)) (c.def_ 1 rfl) ⟨rfl, rfl, rfl, by decide +kernel, rfl, by decide +kernel, by decide +kernel⟩
    (fun _ _ _ _ _ _ us hl => match us, hl with | [_, _], _ => rfl) fun cdv A outer s H E => (pss_one (ps_ost (pv 0) (pv 1)))
theorem own_NoPlayer {P : Program} {w : World} {K : PySem.W.Frag} {mg : Str → Option Value} {base : Heap} (T : Tx K mg) (c : He.SaysD fa fn K) (e : exB K = true) : OwnX P w K mg base 1 "NoPlayer" ["name"] :=
  own1 (n := "NoPlayer") (qn := "NoPlayer.__init__") (st := inClass (top 4) 0) (by decide) (by decide) T.xk T.g_NoPlayer (exB_ini e (by decide)) (c.def_ 2 rfl) ⟨rfl, rfl, rfl, by decide +kernel, rfl, by decide +kernel, by decide +kernel⟩
    (fun _ _ _ _ _ _ us hl => match us, hl with | [_, _], _ => rfl) fun cdv A outer s H E => (pss_one (ps_ost (pv 0) (pv 1)))
theorem own_Known {P : Program} {w : World} {K : PySem.W.Frag} {mg : Str → Option Value} {base : Heap} (T : Tx K mg) (c : He.SaysD fa fn K) (e : exB K = true) : OwnX P w K mg base 1 "Known" ["name"] :=
  own1 (n := "Known") (qn := "Known.__init__") (st := inClass (top 5) 0) (by decide) (by decide) T.xk T.g_Known (exB_ini e (by decide)) (c.def_ 3 rfl) ⟨rfl, rfl, rfl, by decide +kernel, rfl, by decide +kernel, by decide +kernel⟩
    (fun _ _ _ _ _ _ us hl => match us, hl with | [_, _], _ => rfl) fun cdv A outer s H E => (pss_one (ps_ost (pv 0) (pv 1)))
theorem own_NoMeeting {P : Program} {w : World} {K : PySem.W.Frag} {mg : Str → Option Value} {base : Heap} (T : Tx K mg) (c : He.SaysD fa fn K) (e : exB K = true) : OwnX P w K mg base 1 "NoMeeting" ["one", "other"] :=
  own2 (n := "NoMeeting") (qn := "NoMeeting.__init__") (st := inClass (top 6) 0) (by decide) (by decide) (by decide) T.xk T.g_NoMeeting (exB_ini e (by decide)) (c.def_ 4 rfl) ⟨rfl, rfl, rfl, by decide +kernel, rfl, by decide +kernel, by decide +kernel⟩
    (fun _ _ _ _ _ _ us hl => match us, hl with | [_, _, _], _ => rfl) fun cdv A outer s H E => (pss_cons (ps_ost (pv 0) (pv 1)) (pss_one (ps_ost (pv 0) (pv 2))))
theorem own_Broke {P : Program} {w : World} {K : PySem.W.Frag} {mg : Str → Option Value} {base : Heap} (T : Tx K mg) (c : He.SaysD fa fn K) (e : exB K = true) : OwnX P w K mg base 1 "Broke" ["name"] :=
  own1 (n := "Broke") (qn := "Broke.__init__") (st := inClass (top 7) 0) (by decide) (by decide) T.xk T.g_Broke (exB_ini e (by decide)) (c.def_ 5 rfl) ⟨rfl, rfl, rfl, by decide +kernel, rfl, by decide +kernel, by decide +kernel⟩
    (fun _ _ _ _ _ _ us hl => match us, hl with | [_, _], _ => rfl) fun cdv A outer s H E => (pss_one (ps_ost (pv 0) (pv 1)))
theorem own_Stopped {P : Program} {w : World} {K : PySem.W.Frag} {mg : Str → Option Value} {base : Heap} (T : Tx K mg) (c : He.SaysD fa fn K) (e : exB K = true) : OwnX P w K mg base 1 "Stopped" ["at", "done"] :=
  own2 (n := "Stopped") (qn := "Stopped.__init__") (st := inClass (top 8) 0) (by decide) (by decide) (by decide) T.xk T.g_Stopped (exB_ini e (by decide)) (c.def_ 6 rfl) ⟨rfl, rfl, rfl, by decide +kernel, rfl, by decide +kernel, by decide +kernel⟩
    (fun _ _ _ _ _ _ us hl => match us, hl with | [_, _, _], _ => rfl) fun cdv A outer s H E => (pss_cons (ps_ost (pv 0) (pv 1)) (pss_one (ps_ost (pv 0) (pv 2))))
theorem own_Over {P : Program} {w : World} {K : PySem.W.Frag} {mg : Str → Option Value} {base : Heap} (T : Tx K mg) (c : He.SaysD fa fn K) (e : exB K = true) : OwnX P w K mg base 1 "Over" ["name"] :=
  own1 (n := "Over") (qn := "Over.__init__") (st := inClass (top 9) 0) (by decide) (by decide) T.xk T.g_Over (exB_ini e (by decide)) (c.def_ 7 rfl) ⟨rfl, rfl, rfl, by decide +kernel, rfl, by decide +kernel, by decide +kernel⟩
    (fun _ _ _ _ _ _ us hl => match us, hl with | [_, _], _ => rfl) fun cdv A outer s H E => (pss_one (ps_ost (pv 0) (pv 1)))
theorem own_Refused {P : Program} {w : World} {K : PySem.W.Frag} {mg : Str → Option Value} {base : Heap} (T : Tx K mg) (c : He.SaysD fa fn K) (e : exB K = true) : OwnX P w K mg base 1 "Refused" ["many"] :=
  own1 (n := "Refused") (qn := "Refused.__init__") (st := inClass (top 11) 0) (by decide) (by decide) T.xk T.g_Refused (exB_ini e (by decide)) (c.def_ 8 rfl) ⟨rfl, rfl, rfl, by decide +kernel, rfl, by decide +kernel, by decide +kernel⟩
    (fun _ _ _ _ _ _ us hl => match us, hl with | [_, _], _ => rfl) fun cdv A outer s H E => (pss_one (ps_ost (pv 0) (pv 1)))
theorem own_Barred {P : Program} {w : World} {K : PySem.W.Frag} {mg : Str → Option Value} {base : Heap} (T : Tx K mg) (c : He.SaysD fa fn K) (e : exB K = true) : OwnX P w K mg base 1 "Barred" ["members"] :=
  own1 (n := "Barred") (qn := "Barred.__init__") (st := inClass (top 12) 0) (by decide) (by decide) T.xk T.g_Barred (exB_ini e (by decide)) (c.def_ 9 rfl) ⟨rfl, rfl, rfl, by decide +kernel, rfl, by decide +kernel, by decide +kernel⟩
    (fun _ _ _ _ _ _ us hl => match us, hl with | [_, _], _ => rfl) fun cdv A outer s H E => (pss_one (ps_ost (pv 0) (pv 1)))
theorem own_Impossible {P : Program} {w : World} {K : PySem.W.Frag} {mg : Str → Option Value} {base : Heap} (T : Tx K mg) (c : He.SaysD fa fn K) (e : exB K = true) : OwnX P w K mg base 1 "Impossible" ["at"] :=
  own1 (n := "Impossible") (qn := "Impossible.__init__") (st := inClass (top 15) 0) (by decide) (by decide) T.xk T.g_Impossible (exB_ini e (by decide)) (c.def_ 10 rfl) ⟨rfl, rfl, rfl, by decide +kernel, rfl, by decide +kernel, by decide +kernel⟩
    (fun _ _ _ _ _ _ us hl => match us, hl with | [_, _], _ => rfl) fun cdv A outer s H E => (pss_one (ps_ost (pv 0) (pv 1)))
theorem own_TooMany {P : Program} {w : World} {K : PySem.W.Frag} {mg : Str → Option Value} {base : Heap} (T : Tx K mg) (c : He.SaysD fa fn K) (e : exB K = true) : OwnX P w K mg base 1 "TooMany" ["limit"] :=
  own1 (n := "TooMany") (qn := "TooMany.__init__") (st := inClass (top 16) 0) (by decide) (by decide) T.xk T.g_TooMany (exB_ini e (by decide)) (c.def_ 11 rfl) ⟨rfl, rfl, rfl, by decide +kernel, rfl, by decide +kernel, by decide +kernel⟩
    (fun _ _ _ _ _ _ us hl => match us, hl with | [_, _], _ => rfl) fun cdv A outer s H E => (pss_one (ps_ost (pv 0) (pv 1)))
theorem facts {P : Program} {w : World} {K : PySem.W.Frag} {h : Heap} {mg : Str → Option Value} {f : Addr} (X : K.In h) (G : h.Ns mainGlobals mg) (hfa : mg ("law" : Str) = some (.ref f)) (c : He.SaysD fa fn K) (e : exB K = true) :
    ∃ fd : FuncData, (∀ (s : Shared) (v : Value), BindsTo s fd ⟨[v], []⟩ [("_law_script", v)]) ∧ ∀ base : Heap, K.In base → base.Ns mainGlobals mg → FnOkG P w K mg base CX0 6 f fd ["_law_script"] (sp_l_law K) := by
  have T := tx_ok X G c (exB_cls e)
  have e1 := hfa.symm.trans T.g_law
  cases e1
  obtain ⟨fd, F⟩ := T.f_law
  have b := FunD.bindsA (ps := ["_law_script"]) F fun _ _ _ _ _ _ us hl => match us, hl with | [_], _ => rfl
  refine ⟨fd, fun s v => b s [v] rfl, fun base kb nb => ?_⟩
  have Fstep := ok_l_step (P := P) (w := w) (base := base) T
  have Ftake := ok_l_take (P := P) (w := w) (base := base) T Fstep
  have Fdraw := ok_l_draw (P := P) (w := w) (base := base) T Fstep Ftake
  have Fnames := ok_l_names (P := P) (w := w) (base := base) T Fdraw
  have Fmade := ok_l_made (P := P) (w := w) (base := base) T (own_BadItem T c e) (own_Barred T c e) (own_Broke T c e) (own_Impossible T c e) (own_Known T c e) (own_NoMeeting T c e) (own_NoPlayer T c e) (own_Over T c e) (own_Refused T c e) (own_Stopped T c e) (own_TooMany T c e) (own_Wrong T c e)
  have Fflags := ok_l_flags (P := P) (w := w) (base := base) T
  have Ffields := ok_l_fields (P := P) (w := w) (base := base) T
  have Falike := ok_l_alike (P := P) (w := w) (base := base) T
  have Fright := ok_l_right (P := P) (w := w) (base := base) T Fflags Fmade Ffields Falike
  have Fvalue := ok_l_value (P := P) (w := w) (base := base) T Fdraw Fnames
  have Fhand := ok_l_hand (P := P) (w := w) (base := base) T
  exact ok_l_law T Fhand Fvalue Fflags Fright F
end GL
open PySem PySem.W PySem.Calls PyProof.Rows
theorem PySem.Challenge.cw_eitherpays_k16_errors_apart_holds : PySem.Challenge.rw_eitherpays_k16_errors_apart.Holds := by
  w_on; o_law
  refine HandSHeadRun.head_any (r := OpenLaw.row PySem.Challenge.rw_eitherpays_k16_errors_apart) (q := view (OpenLaw.row PySem.Challenge.rw_eitherpays_k16_errors_apart).prog [32]) (H := GL.hk) (ob := GL.ob) (M := 100000) (loose := GL.names) (d := HandSHeadRun.topDef (OpenLaw.row PySem.Challenge.rw_eitherpays_k16_errors_apart).prog 32)
    (kwd := []) GL.ob_eq (by kernel_rfl) (fun s => by kernel_rfl) GL.run (by kernel_rfl) (by kernel_rfl) (by kernel_rfl) (by rfl) (by first | assumption | decide +kernel) (by decide +kernel) ⟨rfl, rfl, rfl, rfl, rfl, by decide +kernel⟩ ?hw ?hc
  case hw => w_witness2
  case hc =>
    refine GL.walk_ofG (l := PySem.Challenge.rw_eitherpays_k16_errors_apart) (n := 63) (k := 6) (x := "_law_script") rfl (by decide) (by kernel_rfl) ⟨rfl, by decide, by decide⟩ ?F
    intro w mg fa h Y G hmg0
    obtain ⟨K, KX, c, e⟩ := Y
    have hmg : mg ("law" : PySem.Str) = some (.ref fa) := by
      have e : (HandSHeadRun.topDef (OpenLaw.row PySem.Challenge.rw_eitherpays_k16_errors_apart).prog 32).name = ("law" : PySem.Str) := by kernel_rfl
      rw [← e]
      exact hmg0
    obtain ⟨fd, hb, hF⟩ := GL.facts (P := (PySem.Challenge.rw_eitherpays_k16_errors_apart).prog) (w := w) KX G hmg c e
    exact ⟨K, fd, GL.sp_l_law K, KX, hb, fun H a ns hl _ hS => ⟨a, ns, rfl, hS, fun _ => rfl⟩, hF⟩
