import PyProof.Rows.All
import Wide.All
import OpenK.AllK
import Wide.FinOn
import HandS.ForMost
import HandS.ForExc
import HandS.IsInst
import HandS.HeadHook1
import HandS.TupAny
import HandS.Wide
import HandS.More
import HandS.SetKeys
import HandS.Style
import HandS.Conv
import KE.KDictSum
import HandS.Walk
import KE.DataEq
import KE.KEqDict
import HandS.Strs
import HandS.Defaults
import HandS.WordsExc
import HandS.HeadEnd
import HandS.HeadHook3
import HandS.HeadHook4
import KE.KStateDown
import HandS.Head0
import HandS.Head1
import HandS.Head2
import PySem.Challenge.RW_shapeleads_k21_whole_faults
set_option Elab.async false
set_option linter.all false
set_option maxRecDepth 100000
set_option maxHeartbeats 0
/-! Layer G: data as trees over an immutable part of the abstract heap; judgements whose readings are plain functions. -/
namespace G
open PySem L2
open PySem.W (Frag)

/-! ### data -/
inductive D where
  | non | bl (b : Bool) | int (i : Int) | str (x : Str)
  | lst (xs : List D) | tup (xs : List D) | dct (kvs : List (Key × D))
/-- what a name may hold: data; the script; a hot object (the town, a reader); a caught exception of the class named c -/
inductive A where
  | d (x : D) | scr (ns : List Int) | hot (k : Nat) | exc (c : Str)
/-- what a hot object holds: so many noughts; a reader's text and place -/
inductive Hv where
  | zs (n : Nat) | rd (x : Str) (i : Int)
abbrev Sx := List Hv
inductive Res (α : Type) where
  | ok (a : α) (s : Sx) | exc (c : Str) (s : Sx) | stuck
abbrev Rho := List (Option A)
inductive Out where
  | nx (ρ : Rho) (s : Sx) | rt (d : D) (s : Sx) | xc (c : Str) (ρ : Rho) (s : Sx) | stuck
abbrev Fe := Rho → Sx → Res A
abbrev Ft := Rho → Sx → Res Bool
abbrev Fa := Rho → Sx → Res (List A)
abbrev Fs := Rho → Sx → Out
def Res.bind {α β : Type} (r : Res α) (f : α → Sx → Res β) : Res β := match r with
  | .ok a s => f a s
  | .exc c s => .exc c s
  | .stuck => .stuck
@[simp] theorem bind_ok {α β : Type} (a : α) (s : Sx) (f : α → Sx → Res β) : (Res.ok a s).bind f = f a s := rfl
@[simp] theorem bind_exc {α β : Type} (c : Str) (s : Sx) (f : α → Sx → Res β) : (Res.exc c s).bind f = .exc c s := rfl
@[simp] theorem bind_stuck {α β : Type} (f : α → Sx → Res β) : (Res.stuck : Res α).bind f = .stuck := rfl

/-- a caught exception of the class named c -/
def XO (K : Frag) (c : Str) (a : Addr) : HO := .ext fun h => ∃ (oe : Obj) (vs : Array Value), h.get? a = some oe ∧ Zc (.ref (He.ga K c)) none oe ∧ oe.data = .fields vs

/-- a text of a key is no longer than texts are -/
def keyOk : Key → Prop
  | .inl _ => True
  | .inr z => z.length ≤ sizeLine
mutual
inductive Rep (I : Hp) : V → D → Prop
  | non : Rep I .non .non
  | bl (b : Bool) : Rep I (.bl b) (.bl b)
  | int (i : Int) : Rep I (.int i) (.int i)
  | str (x : Str) : x.length ≤ sizeLine → Rep I (.str x) (.str x)
  | lst {a : Addr} {vs : List V} {ds : List D} : I a = some (.lst vs) → vs.length ≤ sizeLine → Reps I vs ds → Rep I (.ref a) (.lst ds)
  | tup {a : Addr} {vs : List V} {ds : List D} : I a = some (.tup vs) → vs.length ≤ sizeLine → Reps I vs ds → Rep I (.ref a) (.tup ds)
  | dct {a : Addr} {ws : List (Key × V)} {kvs : List (Key × D)} : Rd I a (.dK ws) → ws.length ≤ sizeLine → Repk I ws kvs → Rep I (.ref a) (.dct kvs)
inductive Reps (I : Hp) : List V → List D → Prop
  | nil : Reps I [] []
  | cons {v : V} {vs : List V} {d : D} {ds : List D} : Rep I v d → Reps I vs ds → Reps I (v :: vs) (d :: ds)
inductive Repk (I : Hp) : List (Key × V) → List (Key × D) → Prop
  | nil : Repk I [] []
  | cons {k : Key} {v : V} {ws : List (Key × V)} {d : D} {kvs : List (Key × D)} : keyOk k → Rep I v d → Repk I ws kvs → Repk I ((k, v) :: ws) ((k, d) :: kvs)
end
inductive RepA (K : Frag) (hot : List Addr) (I : Hp) : V → A → Prop
  | d {v : V} {x : D} : Rep I v x → RepA K hot I v (.d x)
  | scr {a : Addr} {ns : List Int} : SqL K I a (ns.map V.int) → RepA K hot I (.ref a) (.scr ns)
  | hot {a : Addr} {k : Nat} : hot[k]? = some a → RepA K hot I (.ref a) (.hot k)
  | exc {a : Addr} {c : Str} : I a = some (XO K c a) → RepA K hot I (.ref a) (.exc c)
abbrev RepsA (K : Frag) (hot : List Addr) (I : Hp) : List V → List A → Prop := Paired (RepA K hot I)

/-- what is read in I may be read in J -/
structure ExtR (I J : Hp) : Prop where
  lst : ∀ a vs, I a = some (.lst vs) → J a = some (.lst vs)
  tup : ∀ a vs, I a = some (.tup vs) → J a = some (.tup vs)
  dct : ∀ a ws, Rd I a (.dK ws) → Rd J a (.dK ws)
  sql : ∀ a vs, Rd I a (.lst vs) → Rd J a (.lst vs)
  exc : ∀ a φ, I a = some (.ext φ) → J a = some (.ext φ)
def Ext (I J : Hp) : Prop := ∀ a o, I a = some o → J a = some o
theorem Ext.refl (I : Hp) : Ext I I := fun _ _ h => h
theorem Ext.trans {I J L : Hp} (a : Ext I J) (b : Ext J L) : Ext I L := fun x o h => b x o (a x o h)
theorem Ext.rd {I J : Hp} (e : Ext I J) {a : Addr} {u : HO} (h : Rd I a u) : Rd J a u := by
  rcases h with h | ⟨o, h⟩
  · exact .inl (e _ _ h)
  · exact .inr ⟨o, e _ _ h⟩
theorem Ext.r {I J : Hp} (e : Ext I J) : ExtR I J := ⟨fun _ _ h => e _ _ h, fun _ _ h => e _ _ h, fun _ _ h => e.rd h, fun _ _ h => e.rd h, fun _ _ h => e _ _ h⟩
def Pre (hot hot' : List Addr) : Prop := ∀ (k : Nat) (a : Addr), hot[k]? = some a → hot'[k]? = some a
theorem Pre.refl (hot : List Addr) : Pre hot hot := fun _ _ h => h

mutual
theorem Rep.mono {I J : Hp} (e : ExtR I J) : ∀ {v : V} {d : D}, Rep I v d → Rep J v d
  | _, _, .non => .non
  | _, _, .bl b => .bl b
  | _, _, .int i => .int i
  | _, _, .str x z => .str x z
  | _, _, .lst h z r => .lst (e.lst _ _ h) z (Reps.mono e r)
  | _, _, .tup h z r => .tup (e.tup _ _ h) z (Reps.mono e r)
  | _, _, .dct h z r => .dct (e.dct _ _ h) z (Repk.mono e r)
theorem Reps.mono {I J : Hp} (e : ExtR I J) : ∀ {vs : List V} {ds : List D}, Reps I vs ds → Reps J vs ds
  | _, _, .nil => .nil
  | _, _, .cons h r => .cons (Rep.mono e h) (Reps.mono e r)
theorem Repk.mono {I J : Hp} (e : ExtR I J) : ∀ {ws : List (Key × V)} {kvs : List (Key × D)}, Repk I ws kvs → Repk J ws kvs
  | _, _, .nil => .nil
  | _, _, .cons z h r => .cons z (Rep.mono e h) (Repk.mono e r)
end
theorem RepA.mono {K : Frag} {hot hot' : List Addr} {I J : Hp} (e : ExtR I J) (p : Pre hot hot') {v : V} {a : A} : RepA K hot I v a → RepA K hot' J v a
  | .d h => .d (h.mono e)
  | .scr h => .scr (by
      rcases h with h | h
      · exact .inl (e.sql _ _ h)
      · exact .inr h)
  | .hot h => .hot (p _ _ h)
  | .exc h => .exc (e.exc _ _ h)
theorem RepsA.mono {K : Frag} {hot hot' : List Addr} {I J : Hp} (e : ExtR I J) (p : Pre hot hot') : ∀ {vs : List V} {as : List A}, RepsA K hot I vs as → RepsA K hot' J vs as
  | _, _, .nil => .nil
  | _, _, .cons h r => .cons (h.mono e p) (RepsA.mono e p r)
theorem Rep.ext {I J : Hp} {v : V} {d : D} (h : Rep I v d) (e : Ext I J) : Rep J v d := h.mono e.r
theorem Reps.ext {I J : Hp} {v : List V} {d : List D} (h : Reps I v d) (e : Ext I J) : Reps J v d := h.mono e.r
theorem Repk.ext {I J : Hp} {v : List (Key × V)} {d : List (Key × D)} (h : Repk I v d) (e : Ext I J) : Repk J v d := h.mono e.r
theorem RepA.ext {K : Frag} {hot : List Addr} {I J : Hp} {v : V} {a : A} (h : RepA K hot I v a) (e : Ext I J) : RepA K hot J v a := h.mono e.r (Pre.refl _)
theorem RepsA.ext {K : Frag} {hot : List Addr} {I J : Hp} {v : List V} {a : List A} (h : RepsA K hot I v a) (e : Ext I J) : RepsA K hot J v a := RepsA.mono e.r (Pre.refl _) h
theorem RepA.dat {K : Frag} {hot : List Addr} {I : Hp} {v : V} {x : D} (h : RepA K hot I v (.d x)) : Rep I v x := by cases h; assumption
theorem Reps.length {I : Hp} : ∀ {vs : List V} {ds : List D}, Reps I vs ds → vs.length = ds.length
  | _, _, .nil => rfl
  | _, _, .cons _ r => by simp [Reps.length r]
theorem Repk.length {I : Hp} : ∀ {vs : List (Key × V)} {ds : List (Key × D)}, Repk I vs ds → vs.length = ds.length
  | _, _, .nil => rfl
  | _, _, .cons _ _ r => by simp [Repk.length r]
theorem Reps.append {I : Hp} : ∀ {vs ws : List V} {ds es : List D}, Reps I vs ds → Reps I ws es → Reps I (vs ++ ws) (ds ++ es)
  | _, _, _, _, .nil, s => s
  | _, _, _, _, .cons h r, s => .cons h (Reps.append r s)
theorem Reps.one {I : Hp} {v : V} {d : D} (h : Rep I v d) : Reps I [v] [d] := .cons h .nil
theorem Reps.get {I : Hp} : ∀ {vs : List V} {ds : List D}, Reps I vs ds → ∀ {i : Nat} {d : D}, ds[i]? = some d → ∃ v, vs[i]? = some v ∧ Rep I v d
  | _, _, .nil, i, d, h => by simp at h
  | _, _, .cons h r, 0, d, e => by simp at e; subst e; exact ⟨_, rfl, h⟩
  | _, _, .cons h r, i + 1, d, e => by
    obtain ⟨v, h1, h2⟩ := Reps.get r (i := i) (d := d) (by simpa using e)
    exact ⟨v, by simpa using h1, h2⟩
theorem Reps.getV {I : Hp} : ∀ {vs : List V} {ds : List D}, Reps I vs ds → ∀ {i : Nat} {v : V}, vs[i]? = some v → ∃ d, ds[i]? = some d ∧ Rep I v d
  | _, _, .nil, i, d, h => by simp at h
  | _, _, .cons h r, 0, d, e => by simp at e; subst e; exact ⟨_, rfl, h⟩
  | _, _, .cons h r, i + 1, d, e => by
    obtain ⟨v, h1, h2⟩ := Reps.getV r (i := i) (v := d) (by simpa using e)
    exact ⟨v, by simpa using h1, h2⟩
theorem Reps.set {I : Hp} {v : V} {d : D} (hv : Rep I v d) : ∀ {vs : List V} {ds : List D} (i : Nat), Reps I vs ds → Reps I (vs.set i v) (ds.set i d)
  | _, _, _, .nil => .nil
  | _, _, 0, .cons h r => .cons hv r
  | _, _, i + 1, .cons h r => .cons h (Reps.set hv i r)
theorem Reps.take {I : Hp} : ∀ {vs : List V} {ds : List D} (i : Nat), Reps I vs ds → Reps I (vs.take i) (ds.take i)
  | _, _, 0, _ => .nil
  | _, _, _ + 1, .nil => .nil
  | _, _, i + 1, .cons h r => .cons h (Reps.take i r)
theorem Reps.drop {I : Hp} : ∀ {vs : List V} {ds : List D} (i : Nat), Reps I vs ds → Reps I (vs.drop i) (ds.drop i)
  | _, _, 0, h => h
  | _, _, _ + 1, .nil => .nil
  | _, _, i + 1, .cons h r => Reps.drop i r
theorem Reps.reverse {I : Hp} : ∀ {vs : List V} {ds : List D}, Reps I vs ds → Reps I vs.reverse ds.reverse
  | _, _, .nil => .nil
  | _, _, .cons h r => by
    rw [List.reverse_cons, List.reverse_cons]
    exact (Reps.reverse r).append (Reps.one h)

/-! ### the world -/
def HotAt (K : Frag) (H : Hp) (a : Addr) : Hv → Prop
  | .zs n => H a = some (.lst (List.replicate n (.int 0)))
  | .rd x i => ∃ dx, H a = some (.ins (He.ga K "Reader") dx [(("text" : Str), .str x), (("at" : Str), .int i)])
theorem HotAt.some {K : Frag} {H : Hp} {a : Addr} : ∀ {hv : Hv}, HotAt K H a hv → ∃ o, H a = some o
  | .zs _, h => ⟨_, h⟩
  | .rd _ _, ⟨_, h⟩ => ⟨_, h⟩
theorem HotAt.at {K : Frag} {H H' : Hp} {a : Addr} (e : ∀ o, H a = Option.some o → H' a = Option.some o) : ∀ {hv : Hv}, HotAt K H a hv → HotAt K H' a hv
  | .zs _, h => e _ h
  | .rd _ _, ⟨dx, h⟩ => ⟨dx, e _ h⟩
structure Wld (K : Frag) (H : Hp) (S : Sx) (I : Hp) (hot : List Addr) : Prop where
  ext : Ext I H
  len : hot.length = S.length
  at_ : ∀ (k : Nat) a hv, hot[k]? = some a → S[k]? = some hv → HotAt K H a hv
  off : ∀ a ∈ hot, I a = none
  nd : hot.Nodup
theorem Wld.there {K : Frag} {H : Hp} {S : Sx} {I : Hp} {hot : List Addr} (w : Wld K H S I hot) {a : Addr} (h : a ∈ hot) : ∃ o, H a = some o := by
  obtain ⟨k, hk, e⟩ := List.mem_iff_getElem.mp h
  have h2 : k < S.length := by rw [← w.len]; exact hk
  exact (w.at_ k a S[k] (by rw [List.getElem?_eq_getElem hk, e]) (List.getElem?_eq_getElem h2)).some
structure Stp (hot : List Addr) (H I H' I' : Hp) : Prop where
  ext : Ext I I'
  keep : ∀ a o, H a = some o → a ∉ hot → H' a = some o
  stay : ∀ a o, H a = some o → ∃ o', H' a = some o'
  new : ∀ a o, I' a = some o → I a = some o ∨ H a = none
theorem Stp.refl (hot : List Addr) (H I : Hp) : Stp hot H I H I := ⟨Ext.refl _, fun _ _ h _ => h, fun _ o h => ⟨o, h⟩, fun _ _ h => .inl h⟩
theorem Stp.back {hot : List Addr} {H I H' I' : Hp} (s : Stp hot H I H' I') {a : Addr} (h : H' a = none) : H a = none := by
  cases e : H a with
  | none => rfl
  | some o =>
    obtain ⟨o', q⟩ := s.stay a o e
    rw [h] at q; cases q
theorem Stp.trans {hot : List Addr} {H I H1 I1 H2 I2 : Hp} (a : Stp hot H I H1 I1) (b : Stp hot H1 I1 H2 I2) : Stp hot H I H2 I2 :=
  ⟨a.ext.trans b.ext, fun x o h n => b.keep x o (a.keep x o h n) n, fun x o h => by
    obtain ⟨o1, q⟩ := a.stay x o h
    exact b.stay x o1 q, fun x o h => by
    rcases b.new x o h with h | h
    · exact a.new x o h
    · exact .inr (a.back h)⟩
theorem Stp.more {hot hot' : List Addr} {H I H' I' : Hp} (s : Stp hot H I H' I') (h : ∀ a ∈ hot, a ∈ hot') : Stp hot' H I H' I' :=
  ⟨s.ext, fun a o e n => s.keep a o e fun z => n (h a z), s.stay, s.new⟩

def OwnAt (hot : List Addr) (I H : Hp) (a : Addr) (d : D) : Prop :=
  I a = none ∧ a ∉ hot ∧ ((∃ vs ds, d = .lst ds ∧ H a = some (.lst vs) ∧ vs.length ≤ sizeLine ∧ Reps I vs ds) ∨ ∃ ws kvs, d = .dct kvs ∧ H a = some (.dK ws) ∧ ws.length ≤ sizeLine ∧ Repk I ws kvs)
theorem OwnAt.some {hot : List Addr} {I H : Hp} {a : Addr} {d : D} (o : OwnAt hot I H a d) : ∃ o, H a = some o := by
  rcases o.2.2 with ⟨_, _, _, h, _⟩ | ⟨_, _, _, h, _⟩
  · exact ⟨_, h⟩
  · exact ⟨_, h⟩
structure Bs where
  H : Hp
  I : Hp
structure Rel (K : Frag) (B : Bs) (M : List Nat) (σ : L2.St) (H : Hp) (ρ : Rho) (S : Sx) (I : Hp) (hot : List Addr) : Prop where
  wd : Wld K H S I hot
  st : Stp hot B.H B.I H I
  len : σ.length = ρ.length
  val : ∀ (i : Nat) d, ρ[i]? = some (some d) → i ∉ M → ∃ v, σ[i]? = some (some v) ∧ RepA K hot I v d
  own : ∀ i ∈ M, ∃ d a, ρ[i]? = some (some (.d d)) ∧ σ[i]? = some (some (.ref a)) ∧ OwnAt hot I H a d ∧ B.H a = none
  sep : ∀ i ∈ M, ∀ j ∈ M, i ≠ j → σ[i]? ≠ σ[j]?

section
variable {K : Frag} {B : Bs} {M : List Nat} {σ : L2.St} {H H' : Hp} {ρ : Rho} {S S' : Sx} {I I' : Hp} {hot : List Addr}
/-- behind a step that leaves the owned ones as they were (a call, a new object) -/
theorem Rel.step (r : Rel K B M σ H ρ S I hot) (s : Stp hot H I H' I') (w : Wld K H' S' I' hot) : Rel K B M σ H' ρ S' I' hot :=
  ⟨w, r.st.trans s, r.len, fun i d h n => by
    obtain ⟨v, h1, h2⟩ := r.val i d h n
    exact ⟨v, h1, h2.ext s.ext⟩, fun i hi => by
    obtain ⟨d, a, h1, h2, ⟨h3, h4, h5⟩, h6⟩ := r.own i hi
    have an : I' a = none := by
      cases e : I' a with
      | none => rfl
      | some o =>
        rcases s.new a o e with q | q
        · rw [h3] at q; cases q
        · obtain ⟨o', z⟩ := OwnAt.some ⟨h3, h4, h5⟩
          rw [q] at z; cases z
    refine ⟨d, a, h1, h2, ⟨an, h4, ?_⟩, h6⟩
    rcases h5 with ⟨vs, ds, e, ha, hz, hr⟩ | ⟨ws, kvs, e, ha, hz, hr⟩
    · exact .inl ⟨vs, ds, e, s.keep _ _ ha h4, hz, hr.ext s.ext⟩
    · exact .inr ⟨ws, kvs, e, s.keep _ _ ha h4, hz, hr.ext s.ext⟩, r.sep⟩
theorem upd_ext {I : Hp} {p : Addr} {o : HO} (h : I p = none) : Ext I (upd I p o) := fun a u e => by
  rw [upd_ne (ne_of_none e h)]; exact e
theorem Wld.none {H : Hp} {S : Sx} {I : Hp} {hot : List Addr} {p : Addr} (w : Wld K H S I hot) (h : H p = none) : I p = none ∧ p ∉ hot := by
  refine ⟨?_, fun z => ?_⟩
  · cases e : I p with
    | none => rfl
    | some o => rw [w.ext p o e] at h; cases h
  · obtain ⟨o, q⟩ := w.there z
    rw [h] at q; cases q
/-- a new immutable object -/
theorem stp_new {hot : List Addr} {H I : Hp} {p : Addr} {o : HO} (h : H p = none) (hi : I p = none) : Stp hot H I (upd H p o) (upd I p o) :=
  ⟨upd_ext hi, fun a u e _ => by rw [upd_ne (ne_of_none e h)]; exact e, fun a u e => ⟨u, by rw [upd_ne (ne_of_none e h)]; exact e⟩, fun a u e => by
    by_cases z : a = p
    · subst z; exact .inr h
    · rw [upd_ne z] at e; exact .inl e⟩
theorem Wld.new {H : Hp} {S : Sx} {I : Hp} {hot : List Addr} {p : Addr} {o : HO} (w : Wld K H S I hot) (h : H p = Option.none) : Wld K (upd H p o) S (upd I p o) hot := by
  obtain ⟨hi, hh⟩ := w.none h
  refine ⟨fun a u e => ?_, w.len, fun k a hv e1 e2 => ?_, fun a ha => ?_, w.nd⟩
  · by_cases z : a = p
    · subst z; rw [upd_same] at e ⊢; exact e
    · rw [upd_ne z] at e ⊢; exact w.ext a u e
  · exact (w.at_ k a hv e1 e2).at fun o e => by rw [upd_ne (ne_of_none e h)]; exact e
  · rw [upd_ne (fun z : a = p => hh (by rw [← z]; exact ha))]; exact w.off a ha
theorem Rel.new {p : Addr} {o : HO} (r : Rel K B M σ H ρ S I hot) (h : H p = none) : Rel K B M σ (upd H p o) ρ S (upd I p o) hot :=
  r.step (stp_new h (r.wd.none h).1) (r.wd.new h)
end

/-- owned ones may be given up: they are immutable from then on -/
theorem Rel.freeze {K : Frag} {B : Bs} {M M' : List Nat} {σ : L2.St} {H : Hp} {ρ : Rho} {S : Sx} {I : Hp} {hot : List Addr} (r : Rel K B M σ H ρ S I hot) (h : ∀ i ∈ M', i ∈ M) : ∃ J, Ext I J ∧ Rel K B M' σ H ρ S J hot := by
  classical
  let O : Addr → Prop := fun a => ∃ i ∈ M, i ∉ M' ∧ σ[i]? = some (some (.ref a))
  let J : Hp := fun a => if O a then H a else I a
  have hO : ∀ a, O a → I a = none ∧ a ∉ hot ∧ B.H a = none := fun a ⟨i, hi, _, e⟩ => by
    obtain ⟨d, b, _, h2, h3, h4⟩ := r.own i hi
    rw [e] at h2
    cases h2
    exact ⟨h3.1, h3.2.1, h4⟩
  have jO : ∀ a, O a → J a = H a := fun a o => if_pos o
  have jN : ∀ a, ¬ O a → J a = I a := fun a o => if_neg o
  have ext : Ext I J := fun a o e => by
    have n : ¬ O a := fun z => by rw [(hO a z).1] at e; cases e
    rw [jN a n]; exact e
  refine ⟨J, ext, ⟨⟨fun a o e => ?_, r.wd.len, r.wd.at_, fun a ha => ?_, r.wd.nd⟩, ⟨r.st.ext.trans ext, r.st.keep, r.st.stay, fun a o e => ?_⟩, r.len, fun i d e hn => ?_, fun i hi => ?_, fun i hi j hj => r.sep i (h i hi) j (h j hj)⟩⟩
  · by_cases z : O a
    · rw [jO a z] at e; exact e
    · rw [jN a z] at e; exact r.wd.ext a o e
  · rw [jN a fun z => (hO a z).2.1 ha]; exact r.wd.off a ha
  · by_cases z : O a
    · exact .inr (hO a z).2.2
    · rw [jN a z] at e; exact r.st.new a o e
  · by_cases hm : i ∈ M
    · obtain ⟨d', a, e1, e2, ⟨_, _, e3⟩, _⟩ := r.own i hm
      rw [e] at e1
      cases e1
      have z : O a := ⟨i, hm, hn, e2⟩
      refine ⟨.ref a, e2, .d ?_⟩
      rcases e3 with ⟨vs, ds, rfl, ha, hz, hr⟩ | ⟨ws, kvs, rfl, ha, hz, hr⟩
      · exact .lst ((jO a z).trans ha) hz (hr.ext ext)
      · exact .dct (.inl ((jO a z).trans ha)) hz (hr.ext ext)
    · obtain ⟨v, e1, e2⟩ := r.val i d e hm
      exact ⟨v, e1, e2.ext ext⟩
  · obtain ⟨d, a, e1, e2, ⟨n1, n2, e3⟩, n3⟩ := r.own i (h i hi)
    have z : ¬ O a := fun ⟨j, hj, hj', e⟩ => r.sep i (h i hi) j hj (fun q => hj' (q ▸ hi)) (e2.trans e.symm)
    refine ⟨d, a, e1, e2, ⟨(jN a z).trans n1, n2, ?_⟩, n3⟩
    rcases e3 with ⟨vs, ds, e, ha, hz, hr⟩ | ⟨ws, kvs, e, ha, hz, hr⟩
    · exact .inl ⟨vs, ds, e, ha, hz, hr.ext ext⟩
    · exact .inr ⟨ws, kvs, e, ha, hz, hr.ext ext⟩

/-! ### readings -/
/-- the context of a piece of code: the wish about exceptions, the mask there -/
structure Xc where
  W : WX
  M : List Nat
section
variable (K : Frag)
def Xc.out (x : Xc) (B : Bs) (σ : L2.St) (ρ : Rho) (hot : List Addr) (c : Str) (S' : Sx) : Prop := ∀ σ' H' I', σ' = σ → Rel K B x.M σ' H' ρ S' I' hot → x.W (.ref (He.ga K c)) none σ' H'
/-- behind a piece that ends with r; RX: how a value stands for what is told -/
def After (x : Xc) (B : Bs) (M : List Nat) (σ : L2.St) (ρ : Rho) (hot : List Addr) {α β : Type} (RX : Hp → β → α → Prop) (H I : Hp) (r : Res α) (Q : β → Hp → Prop) : Prop := match r with
  | .ok a S' => ∀ v H' I', Rel K B M σ H' ρ S' I' hot → Stp hot H I H' I' → RX I' v a → Q v H'
  | .exc c S' => x.out K B σ ρ hot c S'
  | .stuck => False
def tOf (x : Xc) (M : List Nat) (f : Fe) : TE := fun σ H Q => ∃ B ρ S I hot, Rel K B M σ H ρ S I hot ∧ After K x B M σ ρ hot (RepA K hot) H I (f ρ S) Q
def RepB : Hp → Bool → Bool → Prop := fun _ v a => v = a
def ttOf (x : Xc) (M : List Nat) (f : Ft) : TT := fun σ H Q => ∃ B ρ S I hot, Rel K B M σ H ρ S I hot ∧ After K x B M σ ρ hot RepB H I (f ρ S) Q
def taOf (x : Xc) (M : List Nat) (f : Fa) : TA := fun σ H Q => ∃ B ρ S I hot, Rel K B M σ H ρ S I hot ∧ After K x B M σ ρ hot (RepsA K hot) H I (f ρ S) Q
end
section
variable {K : Frag} {x : Xc} {B : Bs} {M : List Nat} {σ : L2.St} {ρ : Rho} {hot : List Addr} {H I H1 I1 : Hp} {α β γ δ : Type} {RX : Hp → β → α → Prop} {RY : Hp → δ → γ → Prop}
theorem After.mono {r : Res α} {Q Q' : β → Hp → Prop} (h : After K x B M σ ρ hot RX H I r Q) (k : ∀ v H', Q v H' → Q' v H') : After K x B M σ ρ hot RX H I r Q' := by
  cases r with
  | ok a S => exact fun v H' I' r1 s1 q => k _ _ (h v H' I' r1 s1 q)
  | exc c S => exact h
  | stuck => exact h
theorem After.from {r : Res α} {Q : β → Hp → Prop} (h : After K x B M σ ρ hot RX H I r Q) (s : Stp hot H I H1 I1) : After K x B M σ ρ hot RX H1 I1 r Q := by
  cases r with
  | ok a S => exact fun v H' I' r1 s1 q => h v H' I' r1 (s.trans s1) q
  | exc c S => exact h
  | stuck => exact h
theorem After.bind {r : Res α} {k : α → Sx → Res γ} {Q : δ → Hp → Prop} (h : After K x B M σ ρ hot RY H I (r.bind k) Q) :
    After K x B M σ ρ hot RX H I r fun v H1 => ∃ I1 S1 a, Rel K B M σ H1 ρ S1 I1 hot ∧ Stp hot H I H1 I1 ∧ RX I1 v a ∧ r = .ok a S1 ∧ After K x B M σ ρ hot RY H1 I1 (k a S1) Q := by
  cases r with
  | ok a S => exact fun v H' I' r1 s1 q => ⟨I', S, a, r1, s1, q, rfl, After.from (show After K x B M σ ρ hot RY H I (k a S) Q from h) s1⟩
  | exc c S => exact h
  | stuck => exact h
theorem After.ok {S : Sx} {a : α} {v : β} {Q : β → Hp → Prop} (h : After K x B M σ ρ hot RX H I (.ok a S) Q) (r : Rel K B M σ H ρ S I hot) (q : RX I v a) : Q v H := h v H I r (Stp.refl _ _ _) q
theorem After.new {S : Sx} {a : α} {v : β} {Q : β → Hp → Prop} {p : Addr} {o : HO} (h : After K x B M σ ρ hot RX H I (.ok a S) Q) (r : Rel K B M σ H ρ S I hot) (hp : H p = none) (q : RX (upd I p o) v a) : Q v (upd H p o) :=
  h v _ _ (r.new hp) (stp_new hp (r.wd.none hp).1) q
end
def GE (X : Cx) (x : Xc) (M : List Nat) (e : Expr) (f : Fe) : Prop := PE X e (tOf X.K x M f)
def GT (X : Cx) (x : Xc) (M : List Nat) (e : Expr) (f : Ft) : Prop := PT X e (ttOf X.K x M f)
def GA (X : Cx) (x : Xc) (M : List Nat) (es : List Expr) (f : Fa) : Prop := PA X es (taOf X.K x M f)

theorem PE.weak {X : Cx} {e : Expr} {t t' : TE} (h : PE X e t) (k : ∀ σ H Q, t' σ H Q → t σ H Q) : PE X e t' := ⟨fun pins s σ H Q I q => h.run pins s σ H Q I (k σ H Q q)⟩
theorem PT.weak {X : Cx} {e : Expr} {t t' : TT} (h : PT X e t) (k : ∀ σ H Q, t' σ H Q → t σ H Q) : PT X e t' := ⟨fun pins s σ H Q I q => h.run pins s σ H Q I (k σ H Q q)⟩
theorem PA.weak {X : Cx} {e : List Expr} {t t' : TA} (h : PA X e t) (k : ∀ σ H Q, t' σ H Q → t σ H Q) : PA X e t' := ⟨fun pos pins s σ H Q I q => h.run pos pins s σ H Q I (k σ H Q q)⟩
theorem PS.weak {X : Cx} {e : Stmt} {t t' : TS} (h : PS X e t) (k : ∀ D σ H, t' D σ H → t D σ H) : PS X e t' := ⟨fun pins s σ H D I q => h.run pins s σ H D I (k D σ H q)⟩
theorem PSs.weak {X : Cx} {e : List Stmt} {t t' : TS} (h : PSs X e t) (k : ∀ D σ H, t' D σ H → t D σ H) : PSs X e t' := ⟨fun pins s σ H D I q => h.run pins s σ H D I (k D σ H q)⟩
end G
namespace G
open PySem L2
open PySem.W (Frag)

section
variable {X : Cx} {x : Xc} {M : List Nat}
/-! ### names, constants -/
def eVar (i : Nat) : Fe := fun ρ S => match ρ[i]? with
  | some (some a) => .ok a S
  | _ => .stuck
theorem ge_var {i : Nat} {n : Str} {pos : Pos} (hN : X.N[i]? = some n := by rfl) (hv : Vis X.env.scope n := by first | exact Or.inl rfl | exact Or.inr (Or.inl rfl) | exact Or.inr (Or.inr rfl))
    (hm : i ∉ M := by decide) (hd : (n == ("__debug__" : Str)) = false := by decide) (hcd : (n == ("__classdict__" : Str)) = false := by decide) : GE X x M (.Name n pos) (eVar i) := by
  refine PE.weak (pe_var hN hv hd hcd) ?_
  rintro σ H Q ⟨B, ρ, S, I, hot, R, h⟩
  unfold eVar at h
  cases e : ρ[i]? with
  | none => rw [e] at h; exact h.elim
  | some o =>
    rw [e] at h
    cases o with
    | none => exact h.elim
    | some a =>
      obtain ⟨v, e1, r1⟩ := R.val i a e hm
      exact ⟨v, e1, h.ok R r1⟩
def eC (a : D) : Fe := fun _ S => .ok (.d a) S
theorem ge_c {e : Expr} {v : V} {d : D} (h : PE X e (tC v)) (r : ∀ I, Rep I v d) : GE X x M e (eC d) := by
  refine PE.weak h ?_
  rintro σ H Q ⟨B, ρ, S, I, hot, R, h⟩
  exact After.ok (S := S) h R (.d (r I))
theorem ge_int {i : Int} {j : Nat} {pos : Pos} : GE X x M (.Constant (.int i) j pos) (eC (.int i)) := ge_c pe_int fun _ => .int i
theorem ge_bl {b : Bool} {j : Nat} {pos : Pos} : GE X x M (.Constant (.bool b) j pos) (eC (.bl b)) := ge_c pe_bl fun _ => .bl b
theorem ge_non {j : Nat} {pos : Pos} : GE X x M (.Constant .none j pos) (eC .non) := ge_c pe_non fun _ => .non
theorem ge_str {z : Str} {j : Nat} {pos : Pos} (hz : z.length ≤ sizeLine := by decide) : GE X x M (.Constant (.str z) j pos) (eC (.str z)) := ge_c pe_str fun _ => .str z hz
theorem ge_gint {n : Str} {i : Int} {pos : Pos} (hm : ∃ t, X.mg n = some (.int i t)) (hg : Gl X n := by rfl) (hd : (n == ("__debug__" : Str)) = false := by decide) : GE X x M (.Name n pos) (eC (.int i)) := by
  obtain ⟨t, hm⟩ := hm
  exact ge_c (pe_glob (v := .int i) hg hm ⟨t, rfl⟩ hd) fun _ => .int i
theorem ge_gstr {n : Str} {z : Str} {pos : Pos} (hm : ∃ t, X.mg n = some (.str z t)) (hg : Gl X n := by rfl) (hd : (n == ("__debug__" : Str)) = false := by decide) (hz : z.length ≤ sizeLine := by decide) : GE X x M (.Name n pos) (eC (.str z)) := by
  obtain ⟨t, hm⟩ := hm
  exact ge_c (pe_glob (v := .str z) hg hm ⟨t, rfl⟩ hd) fun _ => .str z hz

/-! ### operators by values -/
def ofO (o : Option D) (S : Sx) : Res A := match o with
  | some d => .ok (.d d) S
  | none => .stuck
@[simp] theorem ofO_some (d : D) (S : Sx) : ofO (some d) S = .ok (.d d) S := rfl
@[simp] theorem ofO_none (S : Sx) : ofO none S = .stuck := rfl
def op2 (g : D → D → Option D) (a b : A) (S : Sx) : Res A := match a, b with
  | .d u, .d v => ofO (g u v) S
  | _, _ => .stuck
@[simp] theorem op2_d (g : D → D → Option D) (u v : D) (S : Sx) : op2 g (.d u) (.d v) S = ofO (g u v) S := rfl
def eOp (g : D → D → Option D) (f f' : Fe) : Fe := fun ρ S => (f ρ S).bind fun a S1 => (f' ρ S1).bind fun b S2 => op2 g a b S2
/-- a two-place operator's reading follows from what it tells of data -/
def OpG (K : Frag) (r : R2) (g : D → D → Option D) : Prop := ∀ (y : Xc) (B : Bs) (M : List Nat) (σ : L2.St) (H : Hp) (ρ : Rho) (S : Sx) (I : Hp) (hot : List Addr) (v w : V) (d1 d2 d : D) (Q : VK), Rel K B M σ H ρ S I hot → Rep I v d1 → Rep I w d2 →
  g d1 d2 = some d → After K y B M σ ρ hot (RepA K hot) H I (.ok (.d d) S) Q → r v w H Q
theorem op2_after {K : Frag} {B : Bs} {σ : L2.St} {H : Hp} {ρ : Rho} {S : Sx} {I : Hp} {hot : List Addr} {v w : V} {a b : A} {g : D → D → Option D} {r : R2} {Q : VK} (hg : OpG K r g) (R : Rel K B M σ H ρ S I hot) (h1 : RepA K hot I v a) (h2 : RepA K hot I w b)
    (h : After K x B M σ ρ hot (RepA K hot) H I (op2 g a b S) Q) : r v w H Q := by
  cases a with
  | d u =>
    cases b with
    | d z =>
      rw [op2_d] at h
      cases e : g u z with
      | none => rw [e] at h; exact h.elim
      | some d => rw [e] at h; exact hg x B M σ H ρ S I hot v w u z d Q R h1.dat h2.dat e h
    | _ => exact h.elim
  | _ => exact h.elim
theorem tOp_of {K : Frag} {f f' : Fe} {g : D → D → Option D} {r : R2} (hg : OpG K r g) {σ : L2.St} {H : Hp} {Q : VK} (h : tOf K x M (eOp g f f') σ H Q) : tOp r (tOf K x M f) (tOf K x M f') σ H Q := by
  obtain ⟨B, ρ, S, I, hot, R, h⟩ := h
  refine ⟨B, ρ, S, I, hot, R, h.bind.mono ?_⟩
  rintro v1 H1 ⟨I1, S1, a, R1, s1, r1, _, h1⟩
  refine ⟨B, ρ, S1, I1, hot, R1, h1.bind.mono ?_⟩
  rintro v2 H2 ⟨I2, S2, b, R2, s2, r2, _, h2⟩
  exact op2_after hg R2 (r1.ext s2.ext) r2 h2
theorem ge_op {op : Operator} {r : R2} {g : D → D → Option D} {a b : Expr} {f f' : Fe} {pos : Pos} (ho : OpR X (binaryOp op) r) (hg : OpG X.K r g) (ha : GE X x M a f) (hb : GE X x M b f') : GE X x M (.BinOp a op b pos) (eOp g f f') :=
  PE.weak (pe_op ho ha hb) fun _ _ _ h => tOp_of hg h
theorem ge_cmp {op : CmpOp} {r : R2} {g : D → D → Option D} {a b : Expr} {f f' : Fe} {pos : Pos} (ho : OpR X (compareOp op) r) (hg : OpG X.K r g) (ha : GE X x M a f) (hb : GE X x M b f') (hm : behindInMarks op b = false := by first | exact nomark _ | rfl) :
    GE X x M (.Compare a [op] [b] pos) (eOp g f f') := PE.weak (pe_cmpR ho ha hb hm) fun _ _ _ h => tOp_of hg h
/-- a value that is a truth -/
def toB (a : A) (S : Sx) : Res Bool := match a with
  | .d (.bl b) => .ok b S
  | _ => .stuck
@[simp] theorem toB_bl (b : Bool) (S : Sx) : toB (.d (.bl b)) S = .ok b S := rfl
def tst (f : Fe) : Ft := fun ρ S => (f ρ S).bind toB
theorem toB_after {K : Frag} {B : Bs} {σ : L2.St} {H : Hp} {ρ : Rho} {S : Sx} {I : Hp} {hot : List Addr} {v : V} {a : A} {Q : Bool → Hp → Prop} (R : Rel K B M σ H ρ S I hot) (h1 : RepA K hot I v a)
    (h : After K x B M σ ρ hot RepB H I (toB a S) Q) : ∃ k, v = .bl k ∧ Q k H := by
  cases a with
  | d u =>
    cases u with
    | bl b =>
      have r := h1.dat
      cases r
      exact ⟨b, rfl, h.ok R rfl⟩
    | _ => exact h.elim
  | _ => exact h.elim
theorem tTest_of {K : Frag} {f : Fe} {σ : L2.St} {H : Hp} {Q : Bool → Hp → Prop} (h : ttOf K x M (tst f) σ H Q) : tTest (tOf K x M f) σ H Q := by
  obtain ⟨B, ρ, S, I, hot, R, h⟩ := h
  refine ⟨B, ρ, S, I, hot, R, h.bind.mono ?_⟩
  rintro v1 H1 ⟨I1, S1, a, R1, s1, r1, _, h1⟩
  exact toB_after R1 r1 h1
theorem gt_cmp {op : CmpOp} {r : R2} {g : D → D → Option D} {a b : Expr} {f f' : Fe} {pos : Pos} (ho : OpR X (compareOp op) r) (hg : OpG X.K r g) (ha : GE X x M a f) (hb : GE X x M b f') (hm : behindInMarks op b = false := by first | exact nomark _ | rfl) :
    GT X x M (.Compare a [op] [b] pos) (tst (eOp g f f')) := by
  refine PT.weak (pt_cmpR ho ha hb hm) fun σ H Q h => ?_
  obtain ⟨B, ρ, S, I, hot, R, h⟩ := h
  refine tOp_of (x := x) (M := M) hg ⟨B, ρ, S, I, hot, R, h.bind.mono ?_⟩
  rintro v1 H1 ⟨I1, S1, a, R1, s1, r1, _, h1⟩
  exact toB_after R1 r1 h1
theorem gt_val {e : Expr} {f : Fe} (h : GE X x M e f) (he : ∀ whole, isTrue e X.env whole = (do let v ← whole; standAt e.pos; holding [v] (truthy v)) := by intro _; rfl) : GT X x M e (tst f) :=
  PT.weak (pt_val h he) fun _ _ _ h => tTest_of h

/-! ### and, or, not; if .. else -/
def tAndF (t u : Ft) : Ft := fun ρ S => (t ρ S).bind fun b S1 => if b = true then u ρ S1 else .ok false S1
def tOrF (t u : Ft) : Ft := fun ρ S => (t ρ S).bind fun b S1 => if b = true then .ok true S1 else u ρ S1
def tNotF (t : Ft) : Ft := fun ρ S => (t ρ S).bind fun b S1 => .ok (!b) S1
def GW (X : Cx) (x : Xc) (M : List Nat) (e : Expr) (f : Ft) : Prop := PW X e (ttOf X.K x M f)
theorem PW.weak {e : Expr} {t t' : TT} (h : PW X e t) (k : ∀ σ H Q, t' σ H Q → t σ H Q) : PW X e t' := ⟨fun wh pins s σ H Q I q => h.run wh pins s σ H Q I (k σ H Q q)⟩
theorem gt_w {e : Expr} {f : Ft} (h : GW X x M e f) : GT X x M e f := L2.PW.pt h
section
variable {a b : Expr} {rest : List Expr} {t u : Ft} {pos : Pos}
theorem gw_and1 (ha : GT X x M a t) : GW X x M (.BoolOp .And [a] pos) t := pw_and1 ha
theorem gw_or1 (ha : GT X x M a t) : GW X x M (.BoolOp .Or [a] pos) t := pw_or1 ha
theorem gw_and (ha : GT X x M a t) (hb : GW X x M (.BoolOp .And (b :: rest) pos) u) : GW X x M (.BoolOp .And (a :: b :: rest) pos) (tAndF t u) := by
  refine PW.weak (pw_and ha hb) ?_
  rintro σ H Q ⟨B, ρ, S, I, hot, R, h⟩
  refine ⟨B, ρ, S, I, hot, R, h.bind.mono ?_⟩
  rintro c H1 ⟨I1, S1, k, R1, s1, r1, _, h1⟩
  cases (show c = k from r1)
  cases c with
  | true => exact ⟨B, ρ, S1, I1, hot, R1, h1⟩
  | false => exact h1.ok R1 rfl
theorem gw_or (ha : GT X x M a t) (hb : GW X x M (.BoolOp .Or (b :: rest) pos) u) : GW X x M (.BoolOp .Or (a :: b :: rest) pos) (tOrF t u) := by
  refine PW.weak (pw_or ha hb) ?_
  rintro σ H Q ⟨B, ρ, S, I, hot, R, h⟩
  refine ⟨B, ρ, S, I, hot, R, h.bind.mono ?_⟩
  rintro c H1 ⟨I1, S1, k, R1, s1, r1, _, h1⟩
  cases (show c = k from r1)
  cases c with
  | false => exact ⟨B, ρ, S1, I1, hot, R1, h1⟩
  | true => exact h1.ok R1 rfl
theorem gt_not (ha : GT X x M a t) : GT X x M (.UnaryOp .Not a pos) (tNotF t) := by
  refine PT.weak (pt_not ha) ?_
  rintro σ H Q ⟨B, ρ, S, I, hot, R, h⟩
  refine ⟨B, ρ, S, I, hot, R, h.bind.mono ?_⟩
  rintro c H1 ⟨I1, S1, k, R1, s1, r1, _, h1⟩
  cases (show c = k from r1)
  exact h1.ok R1 rfl
end
/-- .. as values -/
def eAndF (f g : Fe) : Fe := fun ρ S => (f ρ S).bind fun a S1 => (toB a S1).bind fun b S2 => if b = true then g ρ S2 else .ok (.d (.bl false)) S2
def eOrF (f g : Fe) : Fe := fun ρ S => (f ρ S).bind fun a S1 => (toB a S1).bind fun b S2 => if b = true then .ok (.d (.bl true)) S2 else g ρ S2
def eNotF (f : Fe) : Fe := fun ρ S => (f ρ S).bind fun a S1 => (toB a S1).bind fun b S2 => .ok (.d (.bl (!b))) S2
def eIf (t : Ft) (f g : Fe) : Fe := fun ρ S => (t ρ S).bind fun b S1 => if b = true then f ρ S1 else g ρ S1
theorem toB_bind {K : Frag} {B : Bs} {σ : L2.St} {H : Hp} {ρ : Rho} {S : Sx} {I : Hp} {hot : List Addr} {v : V} {a : A} {k : Bool → Sx → Res A} {Q : VK} (R : Rel K B M σ H ρ S I hot) (h1 : RepA K hot I v a)
    (h : After K x B M σ ρ hot (RepA K hot) H I ((toB a S).bind k) Q) : ∃ b, v = .bl b ∧ After K x B M σ ρ hot (RepA K hot) H I (k b S) Q := by
  cases a with
  | d u =>
    cases u with
    | bl b =>
      have r := h1.dat
      cases r
      exact ⟨b, rfl, h⟩
    | _ => exact h.elim
  | _ => exact h.elim
section
variable {a b c : Expr} {rest : List Expr} {f g : Fe} {t : Ft} {pos : Pos}
theorem ge_one {op : BoolOp} (h : GE X x M a f) : GE X x M (.BoolOp op [a] pos) f := pe_one h
theorem ge_and (ha : GE X x M a f) (hb : GE X x M (.BoolOp .And (b :: rest) pos) g) : GE X x M (.BoolOp .And (a :: b :: rest) pos) (eAndF f g) := by
  refine PE.weak (pe_and ha hb) ?_
  rintro σ H Q ⟨B, ρ, S, I, hot, R, h⟩
  refine ⟨B, ρ, S, I, hot, R, h.bind.mono ?_⟩
  rintro v H1 ⟨I1, S1, k, R1, s1, r1, _, h1⟩
  obtain ⟨c, rfl, h2⟩ := toB_bind R1 r1 h1
  refine ⟨c, rfl, ?_⟩
  cases c with
  | true => exact ⟨B, ρ, S1, I1, hot, R1, h2⟩
  | false => exact h2.ok R1 (.d (.bl false))
theorem ge_or (ha : GE X x M a f) (hb : GE X x M (.BoolOp .Or (b :: rest) pos) g) : GE X x M (.BoolOp .Or (a :: b :: rest) pos) (eOrF f g) := by
  refine PE.weak (pe_or ha hb) ?_
  rintro σ H Q ⟨B, ρ, S, I, hot, R, h⟩
  refine ⟨B, ρ, S, I, hot, R, h.bind.mono ?_⟩
  rintro v H1 ⟨I1, S1, k, R1, s1, r1, _, h1⟩
  obtain ⟨c, rfl, h2⟩ := toB_bind R1 r1 h1
  refine ⟨c, rfl, ?_⟩
  cases c with
  | false => exact ⟨B, ρ, S1, I1, hot, R1, h2⟩
  | true => exact h2.ok R1 (.d (.bl true))
theorem ge_not (ha : GE X x M a f) : GE X x M (.UnaryOp .Not a pos) (eNotF f) := by
  refine PE.weak (pe_not ha) ?_
  rintro σ H Q ⟨B, ρ, S, I, hot, R, h⟩
  refine ⟨B, ρ, S, I, hot, R, h.bind.mono ?_⟩
  rintro v H1 ⟨I1, S1, k, R1, s1, r1, _, h1⟩
  obtain ⟨c, rfl, h2⟩ := toB_bind R1 r1 h1
  exact ⟨c, rfl, h2.ok R1 (.d (.bl (!c)))⟩
theorem ge_if (hc : GT X x M c t) (ha : GE X x M a f) (hb : GE X x M b g) : GE X x M (.IfExp c a b pos) (eIf t f g) := by
  refine PE.weak (pe_ifExp hc ha hb) ?_
  rintro σ H Q ⟨B, ρ, S, I, hot, R, h⟩
  refine ⟨B, ρ, S, I, hot, R, h.bind.mono ?_⟩
  rintro c H1 ⟨I1, S1, k, R1, s1, r1, _, h1⟩
  cases (show c = k from r1)
  cases c with
  | true => exact ⟨B, ρ, S1, I1, hot, R1, h1⟩
  | false => exact ⟨B, ρ, S1, I1, hot, R1, h1⟩
end
/-- a < b < c -/
def eChain (g g' : D → D → Option D) (f1 f2 f3 : Fe) : Fe := fun ρ S => (f1 ρ S).bind fun a S1 => (f2 ρ S1).bind fun b S2 => (op2 g a b S2).bind fun z S3 => (toB z S3).bind fun k S4 =>
  if k = true then (f3 ρ S4).bind fun c S5 => op2 g' b c S5 else .ok (.d (.bl false)) S4
theorem op2_bind {K : Frag} {B : Bs} {σ : L2.St} {H : Hp} {ρ : Rho} {S : Sx} {I : Hp} {hot : List Addr} {v w : V} {a b : A} {g : D → D → Option D} {r : R2} {k : A → Sx → Res A} {Q Q' : VK} (hg : OpG K r g) (R : Rel K B M σ H ρ S I hot) (h1 : RepA K hot I v a) (h2 : RepA K hot I w b)
    (h : After K x B M σ ρ hot (RepA K hot) H I ((op2 g a b S).bind k) Q') (q : ∀ z H1 I1 S1 c, Rel K B M σ H1 ρ S1 I1 hot → Stp hot H I H1 I1 → RepA K hot I1 z c → After K x B M σ ρ hot (RepA K hot) H1 I1 (k c S1) Q' → Q z H1) : r v w H Q :=
  op2_after hg R h1 h2 (h.bind.mono fun z H1 ⟨I1, S1, c, R1, s1, r1, _, h3⟩ => q z H1 I1 S1 c R1 s1 r1 h3)
theorem tChain_of {K : Frag} {f1 f2 f3 : Fe} {g g' : D → D → Option D} {r r' : R2} (hg : OpG K r g) (hg' : OpG K r' g') {σ : L2.St} {H : Hp} {Q : VK} (h : tOf K x M (eChain g g' f1 f2 f3) σ H Q) : tChain r r' (tOf K x M f1) (tOf K x M f2) (tOf K x M f3) σ H Q := by
  obtain ⟨B, ρ, S, I, hot, R, h⟩ := h
  refine ⟨B, ρ, S, I, hot, R, h.bind.mono ?_⟩
  rintro v1 H1 ⟨I1, S1, a, R1, s1, r1, _, h1⟩
  refine ⟨B, ρ, S1, I1, hot, R1, h1.bind.mono ?_⟩
  rintro v2 H2 ⟨I2, S2, b, R2, s2, r2, _, h2⟩
  refine op2_bind hg R2 (r1.ext s2.ext) r2 h2 fun z H3 I3 S3 c R3 s3 r3 h3 => ?_
  obtain ⟨k, rfl, h4⟩ := toB_bind R3 r3 h3
  refine ⟨k, rfl, ?_⟩
  cases k with
  | false => exact h4.ok R3 (.d (.bl false))
  | true =>
    refine ⟨B, ρ, S3, I3, hot, R3, h4.bind.mono ?_⟩
    rintro v4 H4 ⟨I4, S4, c4, R4, s4, r4, _, h5⟩
    exact op2_after hg' R4 ((r2.ext s3.ext).ext s4.ext) r4 h5
theorem ge_chain {op op' : CmpOp} {r r' : R2} {g g' : D → D → Option D} {a b c : Expr} {f1 f2 f3 : Fe} {pos : Pos} (ho : OpR X (compareOp op) r) (hg : OpG X.K r g) (ho' : OpR X (compareOp op') r') (hg' : OpG X.K r' g') (ha : GE X x M a f1) (hb : GE X x M b f2) (hc : GE X x M c f3)
    (hm : lastMarks [op, op'] [b, c] = false := by with_unfolding_all rfl) : GE X x M (.Compare a [op, op'] [b, c] pos) (eChain g g' f1 f2 f3) :=
  PE.weak (pe_chain ho ho' ha hb hc hm) fun _ _ _ h => tChain_of hg hg' h
theorem gt_chain {op op' : CmpOp} {r r' : R2} {g g' : D → D → Option D} {a b c : Expr} {f1 f2 f3 : Fe} {pos : Pos} (ho : OpR X (compareOp op) r) (hg : OpG X.K r g) (ho' : OpR X (compareOp op') r') (hg' : OpG X.K r' g') (ha : GE X x M a f1) (hb : GE X x M b f2) (hc : GE X x M c f3)
    (hm : lastMarks [op, op'] [b, c] = false := by with_unfolding_all rfl) : GT X x M (.Compare a [op, op'] [b, c] pos) (tst (eChain g g' f1 f2 f3)) := by
  refine PT.weak (pt_chain ho ho' ha hb hc hm) fun σ H Q h => ?_
  obtain ⟨B, ρ, S, I, hot, R, h⟩ := h
  refine tChain_of (x := x) (M := M) hg hg' ⟨B, ρ, S, I, hot, R, h.bind.mono ?_⟩
  rintro v1 H1 ⟨I1, S1, a, R1, s1, r1, _, h1⟩
  exact toB_after R1 r1 h1
end
end G
namespace G
open PySem L2
open PySem.W (Frag)
open Classical

/-! ### what operators tell -/
noncomputable def addD : D → D → Option D
  | .int i, .int j => some (.int (i + j))
  | .str a, .str b => if a.length + b.length ≤ sizeLine then some (.str (a ++ b)) else none
  | .lst a, .lst b => if a.length + b.length ≤ sizeLine then some (.lst (a ++ b)) else none
  | .tup a, .tup b => if a.length + b.length ≤ sizeLine then some (.tup (a ++ b)) else none
  | _, _ => none
def subD : D → D → Option D
  | .int i, .int j => some (.int (i - j))
  | _, _ => none
noncomputable def mulD : D → D → Option D
  | .int i, .int j => if CMulW i j then some (.int (i * j)) else none
  | .lst a, .int k => if -(2 ^ 63) ≤ k ∧ k < 2 ^ 63 ∧ a.length * k.toNat ≤ sizeLine then some (.lst (List.replicate k.toNat a).flatten) else none
  | _, _ => none
noncomputable def modD : D → D → Option D
  | .int i, .int j => if 0 < j then some (.int (i % j)) else none
  | _, _ => none
noncomputable def fdivD : D → D → Option D
  | .int i, .int j => if CDivW i j then some (.int (i / j)) else none
  | _, _ => none
noncomputable def powD : D → D → Option D
  | .int i, .int j => if CPow i j then some (.int (i ^ j.toNat)) else none
  | _, _ => none
def ltD : D → D → Option D
  | .int i, .int j => some (.bl (decide (i < j)))
  | _, _ => none
def leD : D → D → Option D
  | .int i, .int j => some (.bl (decide (i ≤ j)))
  | _, _ => none
def gtD : D → D → Option D
  | .int i, .int j => some (.bl (decide (j < i)))
  | _, _ => none
def geD : D → D → Option D
  | .int i, .int j => some (.bl (decide (j ≤ i)))
  | _, _ => none

theorem str_app (a b : Str) : (a ++ b).length = a.length + b.length := by
  show (a.cps ++ b.cps).size = _
  rw [Array.size_append]; rfl
section
variable {K : Frag}
theorem og_int {C : Int → Int → Prop} {g : Int → Int → V} {f : D → D → Option D} (h : ∀ d1 d2 d, f d1 d2 = some d → ∃ i j, d1 = .int i ∧ d2 = .int j ∧ C i j ∧ ∀ I, Rep I (g i j) d) : OpG K (rI C g) f := by
  intro y B M σ H ρ S I hot v w d1 d2 d Q R r1 r2 e q
  obtain ⟨i, j, rfl, rfl, c, hr⟩ := h d1 d2 d e
  cases r1
  cases r2
  exact ⟨i, j, rfl, rfl, c, q.ok R (.d (hr I))⟩
theorem og_int0 {g : Int → Int → V} {f : D → D → Option D} (h : ∀ d1 d2 d, f d1 d2 = some d → ∃ i j, d1 = .int i ∧ d2 = .int j ∧ ∀ I, Rep I (g i j) d) : OpG K (rI0 g) f := by
  intro y B M σ H ρ S I hot v w d1 d2 d Q R r1 r2 e q
  obtain ⟨i, j, rfl, rfl, hr⟩ := h d1 d2 d e
  cases r1
  cases r2
  exact ⟨i, j, rfl, rfl, q.ok R (.d (hr I))⟩
theorem og_sub : OpG K (rI0 fun i j => .int (i - j)) subD := og_int0 fun d1 d2 d e => by
  unfold subD at e; split at e <;> cases e
  exact ⟨_, _, rfl, rfl, fun _ => .int _⟩
theorem og_mod : OpG K (rI (fun _ j => 0 < j) fun i j => .int (i % j)) modD := og_int fun d1 d2 d e => by
  unfold modD at e; split at e
  · split at e <;> cases e
    exact ⟨_, _, rfl, rfl, by assumption, fun _ => .int _⟩
  · cases e
theorem og_fdiv : OpG K (rI CDivW fun i j => .int (i / j)) fdivD := og_int fun d1 d2 d e => by
  unfold fdivD at e; split at e
  · split at e <;> cases e
    exact ⟨_, _, rfl, rfl, by assumption, fun _ => .int _⟩
  · cases e
theorem og_pow : OpG K (rI CPow fun i j => .int (i ^ j.toNat)) powD := og_int fun d1 d2 d e => by
  unfold powD at e; split at e
  · split at e <;> cases e
    exact ⟨_, _, rfl, rfl, by assumption, fun _ => .int _⟩
  · cases e
theorem og_lt : OpG K (rI0 fun i j => .bl (decide (i < j))) ltD := og_int0 fun d1 d2 d e => by
  unfold ltD at e; split at e <;> cases e
  exact ⟨_, _, rfl, rfl, fun _ => .bl _⟩
theorem og_le : OpG K (rI0 fun i j => .bl (decide (i ≤ j))) leD := og_int0 fun d1 d2 d e => by
  unfold leD at e; split at e <;> cases e
  exact ⟨_, _, rfl, rfl, fun _ => .bl _⟩
theorem og_gt : OpG K (rI0 fun i j => .bl (decide (j < i))) gtD := og_int0 fun d1 d2 d e => by
  unfold gtD at e; split at e <;> cases e
  exact ⟨_, _, rfl, rfl, fun _ => .bl _⟩
theorem og_ge : OpG K (rI0 fun i j => .bl (decide (j ≤ i))) geD := og_int0 fun d1 d2 d e => by
  unfold geD at e; split at e <;> cases e
  exact ⟨_, _, rfl, rfl, fun _ => .bl _⟩
/-- + of ints, texts, lists, tuples -/
def rAddG (K : Frag) : R2 := fun v w H Q => rI0 (fun i j => .int (i + j)) v w H Q ∨ (∃ i j, v = .str i ∧ w = .str j ∧ i.length + j.length ≤ sizeLine ∧ Q (.str (i ++ j)) H) ∨ rCat v w H Q ∨ rCatA K v w H Q
theorem op_addG {X : Cx} : OpR X (binaryOp .Add) (rAddG X.K) := op_add.or (op_add_str.or (op_cat.or op_catA))
theorem og_add : OpG K (rAddG K) addD := by
  intro y B M σ H ρ S I hot v w d1 d2 d Q R r1 r2 e q
  unfold addD at e
  split at e
  · cases e; cases r1; cases r2
    exact .inl ⟨_, _, rfl, rfl, q.ok R (.d (.int _))⟩
  · split at e <;> cases e
    cases r1; cases r2
    rename_i hz _ _
    exact .inr (.inl ⟨_, _, rfl, rfl, hz, q.ok R (.d (.str _ (by rw [str_app]; exact hz)))⟩)
  · rename_i a b
    split at e <;> cases e
    cases r1 with
    | @lst p vs _ h1 _ q1 =>
      cases r2 with
      | @lst p2 vs2 _ h2 _ q2 =>
        refine .inr (.inr (.inl ⟨p, p2, vs, vs2, rfl, rfl, R.wd.ext _ _ h1, R.wd.ext _ _ h2, by rw [q1.length, q2.length]; assumption, fun z hz => ?_⟩))
        exact q.new R hz (.d (.lst upd_same (by rw [List.length_append, q1.length, q2.length]; assumption) ((q1.append q2).ext (upd_ext (R.wd.none hz).1))))
  · rename_i a b
    split at e <;> cases e
    cases r1 with
    | @tup p vs _ h1 n1 q1 =>
      cases r2 with
      | @tup p2 vs2 _ h2 n2 q2 =>
        refine .inr (.inr (.inr ⟨p, p2, vs, vs2, rfl, rfl, SqT.of (R.wd.ext _ _ h1), SqT.of (R.wd.ext _ _ h2), by rw [q1.length, q2.length]; assumption, fun z => ?_, fun z1 z2 => ?_, fun z1 z2 z hz => ?_⟩))
        · subst z
          cases q1
          exact q.ok R (.d (.tup h2 n2 q2))
        · subst z2
          cases q2
          refine q.ok R (.d (.tup h1 n1 ?_))
          rw [List.append_nil]; exact q1
        · exact q.new R hz (.d (.tup upd_same (by rw [List.length_append, q1.length, q2.length]; assumption) ((q1.append q2).ext (upd_ext (R.wd.none hz).1))))
  · cases e
theorem Reps.rep {I : Hp} {vs : List V} {ds : List D} (h : Reps I vs ds) : ∀ k : Nat, Reps I (List.replicate k vs).flatten (List.replicate k ds).flatten
  | 0 => .nil
  | k + 1 => by
    rw [List.replicate_succ, List.replicate_succ, List.flatten_cons, List.flatten_cons]
    exact h.append (Reps.rep h k)
def rMulG : R2 := fun v w H Q => rI CMulW (fun i j => .int (i * j)) v w H Q ∨ rRep v w H Q
theorem op_mulG {X : Cx} : OpR X (binaryOp .Mult) rMulG := op_mulW.or op_rep
theorem og_mul : OpG K rMulG mulD := by
  intro y B M σ H ρ S I hot v w d1 d2 d Q R r1 r2 e q
  unfold mulD at e
  split at e
  · split at e <;> cases e
    cases r1; cases r2
    exact .inl ⟨_, _, rfl, rfl, by assumption, q.ok R (.d (.int _))⟩
  · split at e <;> cases e
    rename_i a k hc
    cases r1 with
    | @lst p vs _ h1 _ q1 =>
      cases r2
      refine .inr ⟨p, k, vs, rfl, rfl, R.wd.ext _ _ h1, hc.1, hc.2.1, by rw [q1.length]; exact hc.2.2, fun z hz => ?_⟩
      refine q.new R hz (.d (.lst upd_same ?_ ((q1.rep _).ext (upd_ext (R.wd.none hz).1))))
      rw [PyProof.Rows.lm_len_rep_flat, q1.length, Nat.mul_comm]; exact hc.2.2
  · cases e
/-- is None, is not None -/
def isND : D → D → Option D
  | .non, .non => some (.bl true)
  | _, .non => some (.bl false)
  | _, _ => none
def notND : D → D → Option D
  | .non, .non => some (.bl false)
  | _, .non => some (.bl true)
  | _, _ => none
theorem rep_non {I : Hp} {v : V} {d : D} (h : Rep I v d) (hn : d ≠ .non) : decide (v = V.non) = false := by
  cases h <;> first | exact absurd rfl hn | rfl
theorem og_isN : OpG K (fun x y H Q => y = .non ∧ Q (.bl (decide (x = .non))) H) isND := by
  intro y B M σ H ρ S I hot v w d1 d2 d Q R r1 r2 e q
  unfold isND at e
  split at e
  · cases e; cases r1; cases r2; exact ⟨rfl, q.ok R (.d (.bl _))⟩
  · cases e; cases r2
    refine ⟨rfl, ?_⟩
    rw [rep_non r1 (by rintro rfl; simp at *)]
    exact q.ok R (.d (.bl _))
  · cases e
theorem og_notN : OpG K (fun x y H Q => y = .non ∧ Q (.bl (!decide (x = .non))) H) notND := by
  intro y B M σ H ρ S I hot v w d1 d2 d Q R r1 r2 e q
  unfold notND at e
  split at e
  · cases e; cases r1; cases r2; exact ⟨rfl, q.ok R (.d (.bl _))⟩
  · cases e; cases r2
    refine ⟨rfl, ?_⟩
    rw [rep_non r1 (by rintro rfl; simp at *)]
    exact q.ok R (.d (.bl _))
  · cases e
end
end G
namespace G
open PySem L2
open PySem.W (Frag)
open Classical

section
variable {X : Cx} {x : Xc} {M : List Nat}
theorem PE.or {e : Expr} {t u : TE} (h : PE X e t) (k : PE X e u) : PE X e (fun σ H Q => t σ H Q ∨ u σ H Q) := ⟨fun pins s σ H Q I q => by
  rcases q with q | q
  · exact h.run pins s σ H Q I q
  · exact k.run pins s σ H Q I q⟩
/-! ### is None -/
def isN : A → Bool
  | .d .non => true
  | _ => false
def eIsN (f : Fe) : Fe := fun ρ S => (f ρ S).bind fun a S1 => .ok (.d (.bl (isN a))) S1
def eNotN (f : Fe) : Fe := fun ρ S => (f ρ S).bind fun a S1 => .ok (.d (.bl (!isN a))) S1
theorem isN_eq {K : Frag} {hot : List Addr} {I : Hp} {v : V} {a : A} (h : RepA K hot I v a) : decide (v = V.non) = isN a := by
  cases h with
  | d r => cases r <;> rfl
  | scr _ => rfl
  | hot _ => rfl
  | exc _ => rfl
theorem tIsN_of {K : Frag} {f : Fe} {σ : L2.St} {H : Hp} {Q : VK} (h : tOf K x M (eIsN f) σ H Q) : tIsN (tOf K x M f) σ H Q := by
  obtain ⟨B, ρ, S, I, hot, R, h⟩ := h
  refine ⟨B, ρ, S, I, hot, R, h.bind.mono ?_⟩
  rintro v H1 ⟨I1, S1, a, R1, s1, r1, _, h1⟩
  rw [isN_eq r1]
  exact h1.ok R1 (.d (.bl _))
theorem tNotN_of {K : Frag} {f : Fe} {σ : L2.St} {H : Hp} {Q : VK} (h : tOf K x M (eNotN f) σ H Q) : tNotN (tOf K x M f) σ H Q := by
  obtain ⟨B, ρ, S, I, hot, R, h⟩ := h
  refine ⟨B, ρ, S, I, hot, R, h.bind.mono ?_⟩
  rintro v H1 ⟨I1, S1, a, R1, s1, r1, _, h1⟩
  rw [isN_eq r1]
  exact h1.ok R1 (.d (.bl _))
section
variable {a : Expr} {f : Fe} {j : Nat} {pos pos' : Pos}
theorem ge_isN (ha : GE X x M a f) : GE X x M (.Compare a [.Is] [.Constant .none j pos'] pos) (eIsN f) := PE.weak (pe_cmp (pc_isN ha)) fun _ _ _ h => tIsN_of h
theorem ge_notN (ha : GE X x M a f) : GE X x M (.Compare a [.IsNot] [.Constant .none j pos'] pos) (eNotN f) := PE.weak (pe_cmp (pc_notN ha)) fun _ _ _ h => tNotN_of h
theorem tB_of {K : Frag} {f : Fe} {σ : L2.St} {H : Hp} {Q : Bool → Hp → Prop} (h : ttOf K x M (tst f) σ H Q) : tOf K x M f σ H fun v H1 => ∃ c, v = .bl c ∧ Q c H1 := tTest_of h
theorem gt_isN (ha : GE X x M a f) : GT X x M (.Compare a [.Is] [.Constant .none j pos'] pos) (tst (eIsN f)) := PT.weak (pt_cmp (pc_isN ha)) fun _ _ _ h => tIsN_of (tB_of h)
theorem gt_notN (ha : GE X x M a f) : GT X x M (.Compare a [.IsNot] [.Constant .none j pos'] pos) (tst (eNotN f)) := PT.weak (pt_cmp (pc_notN ha)) fun _ _ _ h => tNotN_of (tB_of h)
end

/-! ### truth -/
def truA (S : Sx) : A → Option Bool
  | .d .non => some false
  | .d (.bl b) => some b
  | .d (.int i) => some (i != 0)
  | .d (.str z) => some ((z.length : Int) != 0)
  | .d (.lst xs) => some (!xs.isEmpty)
  | .d (.tup xs) => some (!xs.isEmpty)
  | .scr ns => some (!ns.isEmpty)
  | _ => none
def tTru (f : Fe) : Ft := fun ρ S => (f ρ S).bind fun a S1 => match truA S1 a with
  | some b => .ok b S1
  | none => .stuck
theorem gt_tru {a : Expr} {f : Fe} (ha : GE X x M a f) (he : ∀ whole, isTrue a X.env whole = (do let v ← whole; standAt a.pos; holding [v] (truthy v)) := by intro _; rfl) : GT X x M a (tTru f) := by
  refine PT.weak (pt_truth ha he) ?_
  rintro σ H Q ⟨B, ρ, S, I, hot, R, h⟩
  refine ⟨B, ρ, S, I, hot, R, h.bind.mono ?_⟩
  rintro v H1 ⟨I1, S1, a, R1, s1, r1, _, h1⟩
  cases e : truA S1 a with
  | none => rw [e] at h1; exact h1.elim
  | some b =>
    rw [e] at h1
    refine ⟨b, ?_, h1.ok R1 rfl⟩
    cases r1 with
    | d r =>
      cases r with
      | non => simp [truA] at e; exact e
      | bl c => simp [truA] at e; exact e.symm
      | int i => simp [truA] at e; exact e.symm
      | str z hz =>
        simp only [truA] at e
        exact ⟨hz, (Option.some.inj e).symm⟩
      | lst hl _ hr =>
        simp only [truA, Option.some.injEq] at e
        refine .inl ⟨_, SqL.of (R1.wd.ext _ _ hl), ?_⟩
        rw [← e]; cases hr <;> rfl
      | tup hl _ hr =>
        simp only [truA, Option.some.injEq] at e
        refine .inr (.inl ⟨_, SqT.of (R1.wd.ext _ _ hl), ?_⟩)
        rw [← e]; cases hr <;> rfl
      | dct hl _ hr => simp [truA] at e
    | @scr p ns hs =>
      simp only [truA, Option.some.injEq] at e
      refine .inl ⟨ns.map V.int, ?_, ?_⟩
      · rcases hs with hs | hs
        · exact .inl (R1.wd.ext.rd hs)
        · exact .inr hs
      · rw [← e]; cases ns <;> rfl
    | hot _ => simp [truA] at e
    | exc _ => simp [truA] at e

/-! ### arguments, displays -/
def aNil : Fa := fun _ S => .ok [] S
def aCons (f : Fe) (g : Fa) : Fa := fun ρ S => (f ρ S).bind fun a S1 => (g ρ S1).bind fun as S2 => .ok (a :: as) S2
theorem ga_nil : GA X x M [] aNil := by
  refine PA.weak pa_nil ?_
  rintro σ H Q ⟨B, ρ, S, I, hot, R, h⟩
  exact After.ok (S := S) h R .nil
theorem ga_cons {e : Expr} {es : List Expr} {f : Fe} {g : Fa} (h : GE X x M e f) (hr : GA X x M es g) (hs : starEach (e :: es) X.env = (false, eval e X.env) :: starEach es X.env := by rfl) : GA X x M (e :: es) (aCons f g) := by
  refine PA.weak (pa_cons h hr hs) ?_
  rintro σ H Q ⟨B, ρ, S, I, hot, R, h⟩
  refine ⟨B, ρ, S, I, hot, R, h.bind.mono ?_⟩
  rintro v1 H1 ⟨I1, S1, a, R1, s1, r1, _, h1⟩
  refine ⟨B, ρ, S1, I1, hot, R1, h1.bind.mono ?_⟩
  rintro vs H2 ⟨I2, S2, as, R2, s2, r2, _, h2⟩
  exact h2.ok R2 (.cons (r1.ext s2.ext) r2)
def dats : List A → Option (List D)
  | [] => some []
  | .d x :: r => (dats r).map (x :: ·)
  | _ :: _ => none
@[simp] theorem dats_nil : dats [] = some [] := rfl
@[simp] theorem dats_cons (x : D) (r : List A) : dats (.d x :: r) = (dats r).map (x :: ·) := rfl
theorem dats_reps {K : Frag} {hot : List Addr} {I : Hp} : ∀ {vs : List V} {as : List A} {ds : List D}, RepsA K hot I vs as → dats as = some ds → Reps I vs ds
  | _, _, _, .nil, e => by cases e; exact .nil
  | _, _, _, .cons h r, e => by
    cases h with
    | d q =>
      rw [dats_cons] at e
      cases e2 : dats _ with
      | none => rw [e2] at e; cases e
      | some ds =>
        rw [e2] at e
        cases e
        exact .cons q (dats_reps r e2)
    | scr _ => cases e
    | hot _ => cases e
    | exc _ => cases e
def mkSeq (c : List D → D) (as : List A) (S : Sx) : Res A := match dats as with
  | some ds => if ds.length ≤ sizeLine then .ok (.d (c ds)) S else .stuck
  | none => .stuck
def eTup (g : Fa) : Fe := fun ρ S => (g ρ S).bind (mkSeq .tup)
def eLst (g : Fa) : Fe := fun ρ S => (g ρ S).bind (mkSeq .lst)
theorem mkSeq_after {K : Frag} {B : Bs} {σ : L2.St} {H : Hp} {ρ : Rho} {S : Sx} {I : Hp} {hot : List Addr} {vs : List V} {as : List A} {c : List D → D} {Q : VK} (r : RepsA K hot I vs as)
    (h : After K x B M σ ρ hot (RepA K hot) H I (mkSeq c as S) Q) : ∃ ds, Reps I vs ds ∧ vs.length ≤ sizeLine ∧ After K x B M σ ρ hot (RepA K hot) H I (.ok (.d (c ds)) S) Q := by
  unfold mkSeq at h
  cases e : dats as with
  | none => rw [e] at h; exact h.elim
  | some ds =>
    rw [e] at h
    have q := dats_reps r e
    dsimp only at h
    split at h
    · exact ⟨ds, q, by rw [q.length]; assumption, h⟩
    · exact h.elim
theorem ge_tup {es : List Expr} {g : Fa} {k : Nat} {pos : Pos} (h : GA X x M es g) : GE X x M (.Tuple es k pos) (eTup g) := by
  refine PE.weak (pe_tup h) ?_
  rintro σ H Q ⟨B, ρ, S, I, hot, R, h⟩
  refine ⟨B, ρ, S, I, hot, R, h.bind.mono ?_⟩
  rintro vs H1 ⟨I1, S1, as, R1, s1, r1, _, h1⟩
  obtain ⟨ds, q, hz, h2⟩ := mkSeq_after r1 h1
  exact ⟨hz, fun p hp => h2.new R1 hp (.d (.tup upd_same hz (q.ext (upd_ext (R1.wd.none hp).1))))⟩
theorem ge_lst {es : List Expr} {g : Fa} {pos : Pos} (h : GA X x M es g) : GE X x M (.List es pos) (eLst g) := by
  refine PE.weak (pe_lst h) ?_
  rintro σ H Q ⟨B, ρ, S, I, hot, R, h⟩
  refine ⟨B, ρ, S, I, hot, R, h.bind.mono ?_⟩
  rintro vs H1 ⟨I1, S1, as, R1, s1, r1, _, h1⟩
  obtain ⟨ds, q, hz, h2⟩ := mkSeq_after r1 h1
  exact ⟨hz, fun p hp => h2.new R1 hp (.d (.lst upd_same hz (q.ext (upd_ext (R1.wd.none hp).1))))⟩
theorem ge_dct0 {pos : Pos} : GE X x M (.Dict [] [] pos) (eC (.dct [])) := by
  refine PE.weak pe_dnewK ?_
  rintro σ H Q ⟨B, ρ, S, I, hot, R, h⟩
  exact fun p hp => After.new (S := S) h R hp (.d (.dct (.inl upd_same) (Nat.zero_le _) .nil))

/-! ### a[i] -/
def lookK (kvs : List (Key × D)) (k : Key) : Option D := (kvs.find? fun kv => decide (kv.1 = k)).map (·.2)
theorem look_rep {I : Hp} {k : Key} : ∀ {ws : List (Key × V)} {kvs : List (Key × D)}, Repk I ws kvs → (∀ d, lookK kvs k = some d → ∃ v, valV ws k = some v ∧ Rep I v d) ∧ (lookK kvs k = none → valV ws k = none)
  | _, _, .nil => ⟨fun d h => by simp [lookK] at h, fun _ => rfl⟩
  | _, _, .cons (k := j) (v := v) (d := d) (kvs := kv) _ h r => by
    obtain ⟨i1, i2⟩ := look_rep (k := k) r
    by_cases e : j = k
    · subst e
      refine ⟨fun d' hd => ?_, fun hn => ?_⟩
      · simp [lookK, List.find?_cons] at hd; subst hd
        exact ⟨v, valV_pos rfl, h⟩
      · simp [lookK, List.find?_cons] at hn
    · rw [valV_neg (p := (j, v)) e]
      have q : lookK ((j, d) :: kv) k = lookK kv k := by simp [lookK, List.find?_cons, e]
      rw [q]
      exact ⟨i1, i2⟩
def keyD : D → Option Key
  | .int i => some (.inl i)
  | .str z => some (.inr z)
  | _ => none
def ixD : D → D → Option D
  | .lst xs, .int i => atI xs i
  | .tup xs, .int i => atI xs i
  | .str z, .int i => (atI z.cps.toList i).map fun c => .str ⟨#[c]⟩
  | .dct kvs, k => (keyD k).bind (lookK kvs)
  | _, _ => none
def ixA : A → A → Sx → Res A
  | .d u, .d w, S => ofO (ixD u w) S
  | .scr ns, .d (.int i), S => ofO ((atI ns i).map .int) S
  | _, _, _ => .stuck
def eIx (f f' : Fe) : Fe := fun ρ S => (f ρ S).bind fun a S1 => (f' ρ S1).bind fun b S2 => ixA a b S2
theorem atI_rep {I : Hp} {vs : List V} {ds : List D} (r : Reps I vs ds) {i : Int} {d : D} (h : atI ds i = some d) : ∃ v, atI vs i = some v ∧ Rep I v d := by
  unfold atI at h ⊢
  rw [r.length]
  cases e : ixN ds.length i with
  | none => rw [e] at h; cases h
  | some j =>
    rw [e] at h
    exact r.get h
theorem atI_int {ns : List Int} {i : Int} {n : Int} (h : atI ns i = some n) : atI (ns.map V.int) i = some (.int n) := by
  unfold atI at h ⊢
  rw [List.length_map]
  cases e : ixN ns.length i with
  | none => rw [e] at h; cases h
  | some j =>
    rw [e] at h
    show (ns.map V.int)[j]? = _
    rw [List.getElem?_map, show ns[j]? = some n from h]; rfl
/-- is it a dict? -/
def isDct : Res A → Bool
  | .ok (.d (.dct _)) _ => true
  | _ => false
theorem keyD_rep {I : Hp} {v : V} {d : D} {k : Key} (r : Rep I v d) (h : keyD d = some k) : v = kV k := by
  cases r <;> simp [keyD] at h <;> subst h <;> rfl
theorem ge_ix {a b : Expr} {f f' : Fe} {pos : Pos} (hu : X.A.units + 1 < cLine) (ha : GE X x M a f) (hb : GE X x M b f') (hs : ∀ o i, subscripted b false o i = operate [o, i] (getItem o i) := by intro _ _; rfl) : GE X x M (.Subscript a b pos) (eIx f f') := by
  refine PE.weak (PE.or (pe_ix ix_seq ha hb hs) (pe_dget hu ha hb hs)) ?_
  rintro σ H Q ⟨B, ρ, S, I, hot, R, h⟩
  by_cases hd : isDct (f ρ S) = true
  · refine .inr ⟨B, ρ, S, I, hot, R, h.bind.mono ?_⟩
    rintro v1 H1 ⟨I1, S1, a1, R1, s1, r1, e1, h1⟩
    rw [e1] at hd
    refine ⟨B, ρ, S1, I1, hot, R1, h1.bind.mono ?_⟩
    rintro v2 H2 ⟨I2, S2, b2, R2, s2, r2, e2, h2⟩
    have r1' := r1.ext s2.ext
    cases r1' with
    | d q1 =>
      cases q1 with
      | @dct p ws kvs hp _ hr =>
        cases b2 with
        | d k =>
          have h3 : After X.K x B M σ ρ hot (RepA X.K hot) H2 I2 (ofO ((keyD k).bind (lookK kvs)) S2) Q := h2
          cases ek : keyD k with
          | none => rw [ek] at h3; exact h3.elim
          | some key =>
            rw [ek] at h3
            dsimp only [Option.bind_some] at h3
            cases el : lookK kvs key with
            | none => rw [el] at h3; exact h3.elim
            | some d =>
              rw [el] at h3
              obtain ⟨v, hv, rv⟩ := (look_rep hr).1 d el
              have ev := keyD_rep r2.dat ek
              subst ev
              exact ⟨p, v, rfl, .inl ⟨ws, key, R2.wd.ext.rd hp, rfl, hv.symm⟩, h3.ok R2 (.d rv)⟩
        | _ => exact h2.elim
      | _ => simp [isDct] at hd
    | _ => simp [isDct] at hd
  · refine .inl ⟨B, ρ, S, I, hot, R, h.bind.mono ?_⟩
    rintro v1 H1 ⟨I1, S1, a1, R1, s1, r1, e1, h1⟩
    rw [e1] at hd
    refine ⟨B, ρ, S1, I1, hot, R1, h1.bind.mono ?_⟩
    rintro v2 H2 ⟨I2, S2, b2, R2, s2, r2, e2, h2⟩
    have r1' := r1.ext s2.ext
    cases r1' with
    | d q1 =>
      cases b2 with
      | d k =>
        cases q1 with
        | @lst p vs ds hp _ hr =>
          cases k with
          | int i =>
            have h3 : After X.K x B M σ ρ hot (RepA X.K hot) H2 I2 (ofO (atI ds i) S2) Q := h2
            cases e : atI ds i with
            | none => rw [e] at h3; exact h3.elim
            | some d =>
              rw [e] at h3
              obtain ⟨v, hv, rv⟩ := atI_rep hr e
              have q := r2.dat
              cases q
              exact .inl ⟨p, vs, i, v, rfl, rfl, SqL.of (R2.wd.ext _ _ hp), hv, h3.ok R2 (.d rv)⟩
          | _ => exact h2.elim
        | @tup p vs ds hp _ hr =>
          cases k with
          | int i =>
            have h3 : After X.K x B M σ ρ hot (RepA X.K hot) H2 I2 (ofO (atI ds i) S2) Q := h2
            cases e : atI ds i with
            | none => rw [e] at h3; exact h3.elim
            | some d =>
              rw [e] at h3
              obtain ⟨v, hv, rv⟩ := atI_rep hr e
              have q := r2.dat
              cases q
              exact .inr (.inl ⟨p, vs, i, v, rfl, rfl, SqT.of (R2.wd.ext _ _ hp), hv, h3.ok R2 (.d rv)⟩)
          | _ => exact h2.elim
        | str z hz =>
          cases k with
          | int i =>
            have h3 : After X.K x B M σ ρ hot (RepA X.K hot) H2 I2 (ofO ((atI z.cps.toList i).map fun c => .str ⟨#[c]⟩) S2) Q := h2
            cases e : atI z.cps.toList i with
            | none => rw [e] at h3; exact h3.elim
            | some c =>
              rw [e] at h3
              have q := r2.dat
              cases q
              exact .inr (.inr ⟨z, i, c, rfl, rfl, hz, e, After.ok (S := S2) h3 R2 (.d (.str _ (by show 1 ≤ sizeLine; decide)))⟩)
          | _ => exact h2.elim
        | dct _ _ _ => exact absurd rfl hd
        | _ => cases k <;> exact h2.elim
      | _ => exact h2.elim
    | @scr p ns hs =>
      cases b2 with
      | d k =>
        cases k with
        | int i =>
          have h3 : After X.K x B M σ ρ hot (RepA X.K hot) H2 I2 (ofO ((atI ns i).map .int) S2) Q := h2
          cases e : atI ns i with
          | none => rw [e] at h3; exact h3.elim
          | some n =>
            rw [e] at h3
            have q := r2.dat
            cases q
            refine .inl ⟨p, ns.map V.int, i, .int n, rfl, rfl, ?_, atI_int e, After.ok (S := S2) h3 R2 (.d (.int _))⟩
            rcases hs with hs | hs
            · exact .inl (R2.wd.ext.rd hs)
            · exact .inr hs
        | _ => exact h2.elim
      | _ => exact h2.elim
    | hot _ => exact h2.elim
    | exc _ => exact h2.elim
end
end G
namespace G
open PySem L2
open PySem.W (Frag)
open Classical

section
variable {X : Cx} {x : Xc} {M : List Nat}
/-! ### slices -/
def oNone : Rho → Sx → Res (Option Int) := fun _ S => .ok none S
def toI (a : A) (S : Sx) : Res (Option Int) := match a with
  | .d (.int i) => .ok (some i) S
  | _ => .stuck
def oSome (f : Fe) : Rho → Sx → Res (Option Int) := fun ρ S => (f ρ S).bind toI
def RepO : Hp → Option Int → Option Int → Prop := fun _ v a => v = a
def toOf (K : Frag) (x : Xc) (M : List Nat) (f : Rho → Sx → Res (Option Int)) : TO := fun σ H Q => ∃ B ρ S I hot, Rel K B M σ H ρ S I hot ∧ After K x B M σ ρ hot RepO H I (f ρ S) Q
def GO (X : Cx) (x : Xc) (M : List Nat) (e : Option Expr) (f : Rho → Sx → Res (Option Int)) : Prop := PO X e (toOf X.K x M f)
theorem PO.weak {e : Option Expr} {t t' : TO} (h : PO X e t) (k : ∀ σ H Q, t' σ H Q → t σ H Q) : PO X e t' := ⟨fun pins s σ H Q I q => h.run pins s σ H Q I (k σ H Q q)⟩
theorem go_none : GO X x M none oNone := by
  refine PO.weak po_none ?_
  rintro σ H Q ⟨B, ρ, S, I, hot, R, h⟩
  exact After.ok (S := S) h R rfl
theorem go_some {e : Expr} {f : Fe} (h : GE X x M e f) : GO X x M (some e) (oSome f) := by
  refine PO.weak (po_some h) ?_
  rintro σ H Q ⟨B, ρ, S, I, hot, R, h⟩
  refine ⟨B, ρ, S, I, hot, R, h.bind.mono ?_⟩
  rintro v H1 ⟨I1, S1, a, R1, s1, r1, _, h1⟩
  cases a with
  | d u =>
    cases u with
    | int i =>
      have q := r1.dat
      cases q
      exact ⟨i, rfl, After.ok (S := S1) h1 R1 rfl⟩
    | _ => exact h1.elim
  | _ => exact h1.elim
def cutD (xs : List D) (lo hi : Option Int) : List D := (xs.drop (HT.sIx xs.length 0 lo)).take (HT.sIx xs.length xs.length hi - HT.sIx xs.length 0 lo)
theorem cut_reps {I : Hp} {vs : List V} {ds : List D} (r : Reps I vs ds) (lo hi : Option Int) : Reps I (cutV vs lo hi) (cutD ds lo hi) := by
  unfold cutV cutD
  rw [r.length]
  exact (r.drop _).take _
def slD : D → Option Int → Option Int → Option D
  | .lst xs, lo, hi => some (.lst (cutD xs lo hi))
  | .tup xs, lo, hi => some (.tup (cutD xs lo hi))
  | .str z, lo, hi => some (.str (cutS z lo hi))
  | _, _, _ => none
theorem cutS_le (z : Str) (lo hi : Option Int) : (cutS z lo hi).length ≤ z.length := by
  show (((z.cps.toList.drop _).take _).toArray).size ≤ z.cps.size
  rw [List.size_toArray]
  have h := List.length_take_le (HT.sIx z.length z.length hi - HT.sIx z.length 0 lo) (z.cps.toList.drop (HT.sIx z.length 0 lo))
  have k := List.length_drop (i := HT.sIx z.length 0 lo) (l := z.cps.toList)
  have e : z.cps.toList.length = z.cps.size := by simp
  have t := List.length_take_le' (HT.sIx z.length z.length hi - HT.sIx z.length 0 lo) (z.cps.toList.drop (HT.sIx z.length 0 lo))
  omega
def slA (a : A) (lo hi : Option Int) (S : Sx) : Res A := match a with
  | .d u => ofO (slD u lo hi) S
  | _ => .stuck
def eSl (f : Fe) (fl fh : Rho → Sx → Res (Option Int)) : Fe := fun ρ S => (f ρ S).bind fun a S1 => (fl ρ S1).bind fun lo S2 => (fh ρ S2).bind fun hi S3 => slA a lo hi S3
def rSlG (K : Frag) : V → Option Int → Option Int → Hp → VK → Prop := fun v lo hi H Q => rSlL K v lo hi H Q ∨ rSlA K v lo hi H Q ∨ rSlS v lo hi H Q
theorem sl_G : SlR X (rSlG X.K) := sl_list.or (sl_tupA.or sl_str)
theorem cutD_whole {xs : List D} {lo hi : Option Int} (h : HT.sIx xs.length 0 lo = 0 ∧ HT.sIx xs.length xs.length hi = xs.length) : cutD xs lo hi = xs := by
  unfold cutD; rw [h.1, h.2]; simp
theorem ge_sl {e : Expr} {lo hi : Option Expr} {f : Fe} {fl fh : Rho → Sx → Res (Option Int)} {p pos : Pos} (he : GE X x M e f) (hl : GO X x M lo fl) (hh : GO X x M hi fh) : GE X x M (.Subscript e (.Slice lo hi none p) pos) (eSl f fl fh) := by
  refine PE.weak (pe_slice sl_G he hl hh) ?_
  rintro σ H Q ⟨B, ρ, S, I, hot, R, h⟩
  refine ⟨B, ρ, S, I, hot, R, h.bind.mono ?_⟩
  rintro v H1 ⟨I1, S1, a, R1, s1, r1, _, h1⟩
  refine ⟨B, ρ, S1, I1, hot, R1, h1.bind.mono ?_⟩
  rintro l H2 ⟨I2, S2, l', R2, s2, r2, _, h2⟩
  cases (show l = l' from r2)
  refine ⟨B, ρ, S2, I2, hot, R2, h2.bind.mono ?_⟩
  rintro u H3 ⟨I3, S3, u', R3, s3, r3, _, h3⟩
  cases (show u = u' from r3)
  have r := (r1.ext s2.ext).ext s3.ext
  cases a with
  | d d =>
    have q := r.dat
    cases q with
    | lst hp n hr => exact .inl ⟨_, _, rfl, SqL.of (R3.wd.ext _ _ hp), fun p hz => After.new (S := S3) h3 R3 hz (.d (.lst upd_same (Nat.le_trans (cutV_length _ _ _) n) ((cut_reps hr _ _).ext (upd_ext (R3.wd.none hz).1))))⟩
    | @tup p vs ds hp n hr =>
      refine .inr (.inl ⟨p, vs, rfl, SqT.of (R3.wd.ext _ _ hp), fun hw => ?_, fun _ z hz => After.new (S := S3) h3 R3 hz (.d (.tup upd_same (Nat.le_trans (cutV_length _ _ _) n) ((cut_reps hr _ _).ext (upd_ext (R3.wd.none hz).1))))⟩)
      rw [hr.length] at hw
      refine After.ok (S := S3) h3 R3 (.d ?_)
      rw [cutD_whole hw]
      exact .tup hp n hr
    | str z hz => exact .inr (.inr ⟨z, rfl, hz, After.ok (S := S3) h3 R3 (.d (.str _ (Nat.le_trans (cutS_le z l u) hz)))⟩)
    | _ => exact h3.elim
  | _ => exact h3.elim
/-- xs[::-1] of a list -/
def revD : D → Option D
  | .lst xs => some (.lst xs.reverse)
  | _ => none
def eRev (f : Fe) : Fe := fun ρ S => (f ρ S).bind fun a S1 => match a with
  | .d u => ofO (revD u) S1
  | _ => .stuck
theorem ge_rev {e : Expr} {f : Fe} {k : Nat} {p1 p2 p3 pos : Pos} (he : GE X x M e f) : GE X x M (.Subscript e (.Slice none none (some (.UnaryOp .USub (.Constant (.int 1) k p1) p2)) p3) pos) (eRev f) := by
  refine PE.weak (pe_revL he) ?_
  rintro σ H Q ⟨B, ρ, S, I, hot, R, h⟩
  refine ⟨B, ρ, S, I, hot, R, h.bind.mono ?_⟩
  rintro v H1 ⟨I1, S1, a, R1, s1, r1, _, h1⟩
  cases a with
  | d d =>
    have q := r1.dat
    cases q with
    | lst hp n hr => exact ⟨_, _, rfl, SqL.of (R1.wd.ext _ _ hp), fun p hz => After.new (S := S1) h1 R1 hz (.d (.lst upd_same (by rw [List.length_reverse]; exact n) (hr.reverse.ext (upd_ext (R1.wd.none hz).1))))⟩
    | _ => exact h1.elim
  | _ => exact h1.elim
/-- -n -/
def negD : D → Option D
  | .int i => some (.int (-i))
  | _ => none
def eNeg (f : Fe) : Fe := fun ρ S => (f ρ S).bind fun a S1 => match a with
  | .d u => ofO (negD u) S1
  | _ => .stuck
theorem ge_neg {e : Expr} {f : Fe} {pos : Pos} (he : GE X x M e f) : GE X x M (.UnaryOp .USub e pos) (eNeg f) := by
  refine PE.weak (pe_un un_neg he) ?_
  rintro σ H Q ⟨B, ρ, S, I, hot, R, h⟩
  refine ⟨B, ρ, S, I, hot, R, h.bind.mono ?_⟩
  rintro v H1 ⟨I1, S1, a, R1, s1, r1, _, h1⟩
  cases a with
  | d d =>
    have q := r1.dat
    cases q with
    | int i => exact ⟨i, rfl, After.ok (S := S1) h1 R1 (.d (.int _))⟩
    | _ => exact h1.elim
  | _ => exact h1.elim

/-! ### calls of built-ins -/
def CallG (K : Frag) (r : List V → Hp → VK → Prop) (g : Sx → List A → Option D) : Prop := ∀ (y : Xc) (B : Bs) (M : List Nat) (σ : L2.St) (H : Hp) (ρ : Rho) (S : Sx) (I : Hp) (hot : List Addr) (vs : List V) (as : List A) (d : D) (Q : VK), Rel K B M σ H ρ S I hot → RepsA K hot I vs as →
  g S as = some d → After K y B M σ ρ hot (RepA K hot) H I (.ok (.d d) S) Q → r vs H Q
def eCall (g : Sx → List A → Option D) (fa : Fa) : Fe := fun ρ S => (fa ρ S).bind fun as S1 => ofO (g S1 as) S1
theorem tCB_of {K : Frag} {r : List V → Hp → VK → Prop} {g : Sx → List A → Option D} {fa : Fa} (hg : CallG K r g) {σ : L2.St} {H : Hp} {Q : VK} (h : tOf K x M (eCall g fa) σ H Q) : tCB r (taOf K x M fa) σ H Q := by
  obtain ⟨B, ρ, S, I, hot, R, h⟩ := h
  refine ⟨B, ρ, S, I, hot, R, h.bind.mono ?_⟩
  rintro vs H1 ⟨I1, S1, as, R1, s1, r1, _, h1⟩
  cases e : g S1 as with
  | none => rw [e] at h1; exact h1.elim
  | some d => rw [e] at h1; exact hg x B M σ H1 ρ S1 I1 hot vs as d Q R1 r1 e h1
section
variable {r : List V → Hp → VK → Prop} {g : Sx → List A → Option D} {fa : Fa} {n : Str} {e : Expr} {es : List Expr} {p pos : Pos} {id : String}
theorem ge_callB (hc : CallR X (.builtin id) r) (hg : CallG X.K r g) (hm : X.mg n = none) (hv : bootBuiltins n = some (.builtin id)) (ha : GA X x M (e :: es) fa) (hgl : Gl X n := by rfl) (hn : n ≠ "__name__" := by decide) (hdb : (n == ("__debug__" : Str)) = false := by decide)
    (he : starEach (e :: es) X.env = (false, eval e X.env) :: starEach es X.env := by rfl) (hpl : (backTo pos (starEach es X.env)).any (·.1) = false := by rfl) : GE X x M (.Call (.Name n p) (e :: es) [] pos) (eCall g fa) :=
  PE.weak (pe_callB hc hgl hm hv ha hn hdb he hpl) fun _ _ _ h => tCB_of hg h
theorem ge_callT (hc : CallR X (.type id) r) (hg : CallG X.K r g) (hm : X.mg n = none) (hv : bootBuiltins n = some (.type id)) (ha : GA X x M (e :: es) fa) (hgl : Gl X n := by rfl) (hn : n ≠ "__name__" := by decide) (hdb : (n == ("__debug__" : Str)) = false := by decide)
    (he : starEach (e :: es) X.env = (false, eval e X.env) :: starEach es X.env := by rfl) (hpl : (backTo pos (starEach es X.env)).any (·.1) = false := by rfl) : GE X x M (.Call (.Name n p) (e :: es) [] pos) (eCall g fa) :=
  PE.weak (pe_callTy hc hgl hm hv ha hn hdb he hpl) fun _ _ _ h => tCB_of hg h
end
/-- len -/
def lenG (S : Sx) : List A → Option D
  | [.d (.lst xs)] => some (.int xs.length)
  | [.d (.tup xs)] => some (.int xs.length)
  | [.d (.str z)] => some (.int z.length)
  | [.d (.dct kvs)] => some (.int kvs.length)
  | [.scr ns] => some (.int ns.length)
  | [.hot k] => match S[k]? with
    | some (.zs n) => some (.int n)
    | _ => none
  | _ => none
def rLenG (K : Frag) : List V → Hp → VK → Prop := fun vs H Q => (∃ p ys, vs = [.ref p] ∧ (SqL K H p ys ∨ SqT K H p ys) ∧ Q (.int ys.length) H) ∨ (∃ z, vs = [.str z] ∧ z.length ≤ sizeLine ∧ Q (.int z.length) H) ∨ ∃ a kvs, vs = [.ref a] ∧ Rd H a (.dK kvs) ∧ Q (.int kvs.length) H
theorem call_lenR : CallR X (.builtin "len") (fun vs H Q => ∃ a kvs, vs = [.ref a] ∧ Rd H a (.dK kvs) ∧ Q (.int kvs.length) H) := by
  intro pins s σ H vs us Q I r h
  obtain ⟨a, kvs, rfl, hr, q⟩ := h
  rw [Vals.ref1 r]
  exact d_len I hr fun t s' I' => ⟨.int kvs.length, H, I', ⟨t, rfl⟩, q⟩
theorem call_lenG : CallR X (.builtin "len") (rLenG X.K) := call_len_seq.or (call_len_str.or call_lenR)
theorem paired1 {α β : Type} {F : α → β → Prop} {vs : List α} {b : β} (h : Paired F vs [b]) : ∃ v, vs = [v] ∧ F v b := by
  cases h with
  | cons h r => cases r; exact ⟨_, rfl, h⟩
theorem paired2 {α β : Type} {F : α → β → Prop} {vs : List α} {b c : β} (h : Paired F vs [b, c]) : ∃ v w, vs = [v, w] ∧ F v b ∧ F w c := by
  cases h with
  | cons h r => cases r with
    | cons h2 r => cases r; exact ⟨_, _, rfl, h, h2⟩
theorem SqL.up {K : Frag} {H : Hp} {S : Sx} {I : Hp} {hot : List Addr} (w : Wld K H S I hot) {a : Addr} {vs : List V} (h : SqL K I a vs) : SqL K H a vs := by
  rcases h with h | h
  · exact .inl (w.ext.rd h)
  · exact .inr h
theorem cg_len {K : Frag} : CallG K (rLenG K) lenG := by
  intro y B M σ H ρ S I hot vs as d Q R r e q
  unfold lenG at e
  split at e
  · cases e; obtain ⟨v, rfl, h⟩ := paired1 r
    have h := h.dat
    cases h with
    | lst hp n hr =>
      refine .inl ⟨_, _, rfl, .inl (SqL.of (R.wd.ext _ _ hp)), ?_⟩
      rw [hr.length]; exact q.ok R (.d (.int _))
  · cases e; obtain ⟨v, rfl, h⟩ := paired1 r
    have h := h.dat
    cases h with
    | tup hp n hr =>
      refine .inl ⟨_, _, rfl, .inr (SqT.of (R.wd.ext _ _ hp)), ?_⟩
      rw [hr.length]; exact q.ok R (.d (.int _))
  · cases e; obtain ⟨v, rfl, h⟩ := paired1 r
    have h := h.dat
    cases h with
    | str z hz => exact .inr (.inl ⟨_, rfl, hz, q.ok R (.d (.int _))⟩)
  · cases e; obtain ⟨v, rfl, h⟩ := paired1 r
    have h := h.dat
    cases h with
    | dct hp n hr =>
      refine .inr (.inr ⟨_, _, rfl, R.wd.ext.rd hp, ?_⟩)
      rw [hr.length]; exact q.ok R (.d (.int _))
  · cases e; obtain ⟨v, rfl, h⟩ := paired1 r
    cases h with
    | scr hs =>
      refine .inl ⟨_, _, rfl, .inl (SqL.up R.wd hs), ?_⟩
      rw [List.length_map]; exact q.ok R (.d (.int _))
  · rename_i k
    split at e <;> cases e
    rename_i n hn
    obtain ⟨v, rfl, h⟩ := paired1 r
    cases h with
    | hot ha =>
      have z := R.wd.at_ k _ _ ha hn
      refine .inl ⟨_, _, rfl, .inl (SqL.of z), ?_⟩
      rw [List.length_replicate]; exact q.ok R (.d (.int _))
  · cases e
/-- all, any of truths -/
def boolsOf : List D → Option (List Bool)
  | [] => some []
  | .bl b :: r => (boolsOf r).map (b :: ·)
  | _ :: _ => none
@[simp] theorem boolsOf_map (bs : List Bool) : boolsOf (bs.map .bl) = some bs := by
  induction bs with
  | nil => rfl
  | cons b r ih => simp [boolsOf, ih]
theorem bools_reps {I : Hp} : ∀ {vs : List V} {ds : List D} {bs : List Bool}, Reps I vs ds → boolsOf ds = some bs → vs = bs.map V.bl
  | _, _, _, .nil, e => by cases e; rfl
  | _, _, _, .cons h r, e => by
    cases h with
    | bl b =>
      simp only [boolsOf] at e
      cases e2 : boolsOf _ with
      | none => rw [e2] at e; cases e
      | some bs =>
        rw [e2] at e; cases e
        rw [bools_reps r e2]; rfl
    | _ => cases e
def allG (_ : Sx) : List A → Option D
  | [.d (.lst ds)] => (boolsOf ds).map fun bs => .bl (bs.all id)
  | _ => none
def anyG (_ : Sx) : List A → Option D
  | [.d (.lst ds)] => (boolsOf ds).map fun bs => .bl (bs.any id)
  | _ => none
theorem cg_all {K : Frag} : CallG K (rAll K) allG := by
  intro y B M σ H ρ S I hot vs as d Q R r e q
  unfold allG at e
  split at e
  · rename_i ds
    cases e2 : boolsOf ds with
    | none => rw [e2] at e; cases e
    | some bs =>
      rw [e2] at e; cases e
      obtain ⟨v, rfl, h⟩ := paired1 r
      have h := h.dat
      cases h with
      | lst hp n hr =>
        rw [bools_reps hr e2] at hp
        exact ⟨_, bs, rfl, SqL.of (R.wd.ext _ _ hp), q.ok R (.d (.bl _))⟩
  · cases e
theorem cg_any {K : Frag} : CallG K (rAny K) anyG := by
  intro y B M σ H ρ S I hot vs as d Q R r e q
  unfold anyG at e
  split at e
  · rename_i ds
    cases e2 : boolsOf ds with
    | none => rw [e2] at e; cases e
    | some bs =>
      rw [e2] at e; cases e
      obtain ⟨v, rfl, h⟩ := paired1 r
      have h := h.dat
      cases h with
      | lst hp n hr =>
        rw [bools_reps hr e2] at hp
        exact ⟨_, bs, rfl, SqL.of (R.wd.ext _ _ hp), q.ok R (.d (.bl _))⟩
  · cases e
/-- int(n), int(flag) -/
def intG (_ : Sx) : List A → Option D
  | [.d (.int i)] => some (.int i)
  | [.d (.bl b)] => some (.int (if b then 1 else 0))
  | _ => none
theorem cg_int {K : Frag} : CallG K (fun xs H Q => (∃ i, xs = [.int i] ∧ Q (.int i) H) ∨ ∃ k, xs = [.bl k] ∧ Q (.int (if k then 1 else 0)) H) intG := by
  intro y B M σ H ρ S I hot vs as d Q R r e q
  unfold intG at e
  split at e
  · cases e; obtain ⟨v, rfl, h⟩ := paired1 r
    have h := h.dat; cases h
    exact .inl ⟨_, rfl, q.ok R (.d (.int _))⟩
  · cases e; obtain ⟨v, rfl, h⟩ := paired1 r
    have h := h.dat; cases h
    exact .inr ⟨_, rfl, q.ok R (.d (.int _))⟩
  · cases e
/-- tuple(xs), list(xs) -/
def tupleG (_ : Sx) : List A → Option D
  | [.d (.lst xs)] => some (.tup xs)
  | [.d (.tup xs)] => some (.tup xs)
  | _ => none
def listG (_ : Sx) : List A → Option D
  | [.d (.lst xs)] => some (.lst xs)
  | [.d (.tup xs)] => some (.lst xs)
  | _ => none
theorem cg_tuple {K : Frag} : CallG K (fun xs H Q => ∃ p ys, xs = [.ref p] ∧ ((SqL K H p ys ∧ ∀ l, H l = none → Q (.ref l) (upd H l (.tup ys))) ∨ (SqT K H p ys ∧ Q (.ref p) H))) tupleG := by
  intro y B M σ H ρ S I hot vs as d Q R r e q
  unfold tupleG at e
  split at e
  · cases e; obtain ⟨v, rfl, h⟩ := paired1 r
    have h := h.dat
    cases h with
    | lst hp n hr => exact ⟨_, _, rfl, .inl ⟨SqL.of (R.wd.ext _ _ hp), fun l hl => q.new R hl (.d (.tup upd_same n (hr.ext (upd_ext (R.wd.none hl).1))))⟩⟩
  · cases e; obtain ⟨v, rfl, h⟩ := paired1 r
    have h := h.dat
    cases h with
    | tup hp n hr => exact ⟨_, _, rfl, .inr ⟨SqT.of (R.wd.ext _ _ hp), q.ok R (.d (.tup hp n hr))⟩⟩
  · cases e
theorem cg_list {K : Frag} : CallG K (fun xs H Q => ∃ p ys, xs = [.ref p] ∧ (SqL K H p ys ∨ SqT K H p ys) ∧ ∀ l, H l = none → Q (.ref l) (upd H l (.lst ys))) listG := by
  intro y B M σ H ρ S I hot vs as d Q R r e q
  unfold listG at e
  split at e
  · cases e; obtain ⟨v, rfl, h⟩ := paired1 r
    have h := h.dat
    cases h with
    | lst hp n hr => exact ⟨_, _, rfl, .inl (SqL.of (R.wd.ext _ _ hp)), fun l hl => q.new R hl (.d (.lst upd_same n (hr.ext (upd_ext (R.wd.none hl).1))))⟩
  · cases e; obtain ⟨v, rfl, h⟩ := paired1 r
    have h := h.dat
    cases h with
    | tup hp n hr => exact ⟨_, _, rfl, .inr (SqT.of (R.wd.ext _ _ hp)), fun l hl => q.new R hl (.d (.lst upd_same n (hr.ext (upd_ext (R.wd.none hl).1))))⟩
  · cases e

/-! ### isinstance(e, T), T a built-in class -/
inductive PyT where
  | int | bool | str | list | tuple | dict
def PyT.name : PyT → String
  | .int => "int" | .bool => "bool" | .str => "str" | .list => "list" | .tuple => "tuple" | .dict => "dict"
def isi : PyT → D → Bool
  | .int, .int _ => true
  | .int, .bl _ => true
  | .bool, .bl _ => true
  | .str, .str _ => true
  | .list, .lst _ => true
  | .tuple, .tup _ => true
  | .dict, .dct _ => true
  | _, _ => false
def tyD : D → String
  | .non => "NoneType" | .bl _ => "bool" | .int _ => "int" | .str _ => "str" | .lst _ => "list" | .tup _ => "tuple" | .dct _ => "dict"
theorem kit_isi (T : PyT) (d : D) : kitB (tyD d) T.name = some (isi T d) := by
  cases T <;> cases d <;> (first | rfl | decide +kernel | (show kitB _ _ = some _; decide +kernel))
theorem tyD_ok {K : Frag} {B : Bs} {σ : L2.St} {H : Hp} {ρ : Rho} {S : Sx} {I : Hp} {hot : List Addr} {v : V} {d : D} (R : Rel K B M σ H ρ S I hot) (h : Rep I v d) : TyX K H v (.type (tyD d)) := by
  cases h with
  | non => exact .base .non
  | bl b => exact .base (.bl b)
  | int i => exact .base (.int i)
  | str z _ => exact .base (.str z)
  | lst hp _ _ => exact .base (.lst (R.wd.ext _ _ hp))
  | tup hp _ _ => exact .base (.tup (R.wd.ext _ _ hp))
  | dct hp _ _ =>
    rcases R.wd.ext.rd hp with h | ⟨o, h⟩
    · exact .base (.dK h)
    · exact .fDict h
def eIsi (T : PyT) (f : Fe) : Fe := fun ρ S => (f ρ S).bind fun a S1 => match a with
  | .d u => .ok (.d (.bl (isi T u))) S1
  | _ => .stuck
theorem ge_isi {T : PyT} {e : Expr} {f : Fe} {n : Str} {p p2 pos : Pos} (he : GE X x M e f) (hm : X.mg "isinstance" = none) (hm2 : X.mg n = none) (hv : bootBuiltins n = some (.type T.name)) (hgl : Gl X "isinstance" := by rfl) (hgl2 : Gl X n := by rfl) (hn2 : n ≠ "__name__" := by decide)
    (hd2 : (n == ("__debug__" : Str)) = false := by decide) (hs : starEach [e, .Name n p2] X.env = (false, eval e X.env) :: starEach [.Name n p2] X.env := by rfl) (hs2 : starEach [.Name n p2] X.env = (false, eval (.Name n p2) X.env) :: starEach [] X.env := by rfl)
    (hpl : (backTo pos (starEach [.Name n p2] X.env)).any (·.1) = false := by rfl) :
    GE X x M (.Call (.Name "isinstance" p) [e, .Name n p2] [] pos) (eIsi T f) := by
  have h2 : PE X (.Name n p2) (tC (.ty T.name)) := pe_bltn hgl2 hm2 hv rfl hn2 hd2
  refine PE.weak (pe_callB call_isi hgl hm PyProof.Rows.boot_isinstance (pa_cons he (pa_cons h2 pa_nil hs2) hs) (by decide) (by decide) hs hpl) ?_
  rintro σ H Q ⟨B, ρ, S, I, hot, R, h⟩
  refine ⟨B, ρ, S, I, hot, R, h.bind.mono ?_⟩
  rintro v H1 ⟨I1, S1, a, R1, s1, r1, _, h1⟩
  cases a with
  | d u => exact ⟨v, .ty T.name, .type (tyD u), .type T.name, isi T u, rfl, .ty _, tyD_ok R1 r1.dat, kit_ty (kit_isi T u), After.ok (S := S1) h1 R1 (.d (.bl _))⟩
  | _ => exact h1.elim

/-! ### s.join(list of texts) -/
def strsOf : List D → Option (List Str)
  | [] => some []
  | .str z :: r => (strsOf r).map (z :: ·)
  | _ :: _ => none
@[simp] theorem strsOf_map (zs : List Str) : strsOf (zs.map .str) = some zs := by
  induction zs with
  | nil => rfl
  | cons b r ih => simp [strsOf, ih]
theorem strs_reps {I : Hp} : ∀ {vs : List V} {ds : List D} {zs : List Str}, Reps I vs ds → strsOf ds = some zs → vs = zs.map V.str
  | _, _, _, .nil, e => by cases e; rfl
  | _, _, _, .cons h r, e => by
    cases h with
    | str b _ =>
      simp only [strsOf] at e
      cases e2 : strsOf _ with
      | none => rw [e2] at e; cases e
      | some bs =>
        rw [e2] at e; cases e
        rw [strs_reps r e2]; rfl
    | _ => cases e
def joinD : D → D → Option D
  | .str a, .lst ds => (strsOf ds).bind fun ys => if (ys.map (·.length)).sum + ys.length * a.length ≤ 16777216 ∧ (Txt.join a ys).length ≤ sizeLine then some (.str (Txt.join a ys)) else none
  | .str a, .tup ds => (strsOf ds).bind fun ys => if (ys.map (·.length)).sum + ys.length * a.length ≤ 16777216 ∧ (Txt.join a ys).length ≤ sizeLine then some (.str (Txt.join a ys)) else none
  | _, _ => none
def eJoin (f f' : Fe) : Fe := fun ρ S => (f ρ S).bind fun a S1 => match a with
  | .d (.str z) => (f' ρ S1).bind fun b S2 => op2 joinD (.d (.str z)) b S2
  | _ => .stuck
theorem ge_join {o e : Expr} {f f' : Fe} {apos pos : Pos} (ho : GE X x M o f) (he : GE X x M e f') (hs : starEach [e] X.env = [(false, eval e X.env)] := by rfl) (hbase : attributeBase o "join" X.env (eval o X.env) = eval o X.env := by rfl) (hline : (apos.endLine == pos.line) = true := by rfl) :
    GE X x M (.Call (.Attribute o "join" apos) [e] [] pos) (eJoin f f') := by
  refine PE.weak (pe_join ho he hs hbase hline) ?_
  rintro σ H Q ⟨B, ρ, S, I, hot, R, h⟩
  refine ⟨B, ρ, S, I, hot, R, h.bind.mono ?_⟩
  rintro v H1 ⟨I1, S1, a, R1, s1, r1, _, h1⟩
  cases a with
  | d u =>
    cases u with
    | str z =>
      have q := r1.dat
      cases q
      have h1 : After X.K x B M σ ρ hot (RepA X.K hot) H1 I1 ((f' ρ S1).bind fun b S2 => op2 joinD (.d (.str z)) b S2) Q := h1
      refine ⟨⟨z, rfl⟩, B, ρ, S1, I1, hot, R1, h1.bind.mono ?_⟩
      rintro v2 H2 ⟨I2, S2, b, R2, s2, r2, _, h2⟩
      cases b with
      | d w =>
        rw [op2_d] at h2
        cases w with
        | lst ds =>
          have q := r2.dat
          cases q with
          | lst hp n hr =>
            have h3 : After X.K x B M σ ρ hot (RepA X.K hot) H2 I2 (ofO ((strsOf ds).bind fun ys => if (ys.map (·.length)).sum + ys.length * z.length ≤ 16777216 ∧ (Txt.join z ys).length ≤ sizeLine then some (.str (Txt.join z ys)) else none) S2) Q := h2
            cases e2 : strsOf ds with
            | none => rw [e2] at h3; exact h3.elim
            | some ys =>
              rw [e2] at h3
              dsimp only [Option.bind_some] at h3
              split at h3
              · rename_i hc
                rw [strs_reps hr e2] at hp
                exact ⟨z, _, ys, rfl, rfl, .inl (SqL.of (R2.wd.ext _ _ hp)), hc.1, After.ok (S := S2) h3 R2 (.d (.str _ hc.2))⟩
              · exact h3.elim
        | tup ds =>
          have q := r2.dat
          cases q with
          | tup hp n hr =>
            have h3 : After X.K x B M σ ρ hot (RepA X.K hot) H2 I2 (ofO ((strsOf ds).bind fun ys => if (ys.map (·.length)).sum + ys.length * z.length ≤ 16777216 ∧ (Txt.join z ys).length ≤ sizeLine then some (.str (Txt.join z ys)) else none) S2) Q := h2
            cases e2 : strsOf ds with
            | none => rw [e2] at h3; exact h3.elim
            | some ys =>
              rw [e2] at h3
              dsimp only [Option.bind_some] at h3
              split at h3
              · rename_i hc
                rw [strs_reps hr e2] at hp
                exact ⟨z, _, ys, rfl, rfl, .inr (SqT.of (R2.wd.ext _ _ hp)), hc.1, After.ok (S := S2) h3 R2 (.d (.str _ hc.2))⟩
              · exact h3.elim
        | _ => exact h2.elim
      | _ => exact h2.elim
    | _ => exact h1.elim
  | _ => exact h1.elim
end
end G
namespace G
open PySem L2
open PySem.W (Frag)
open Classical

section
variable {X : Cx} {x : Xc} {M : List Nat}
/-! ### in, not in -/
def flatD : D → Bool
  | .non => true
  | .bl _ => true
  | .int _ => true
  | .str _ => true
  | _ => false
def eqF : D → D → Bool
  | .non, .non => true
  | .bl a, .bl b => a == b
  | .bl a, .int b => (if a then 1 else 0) == b
  | .int a, .bl b => a == (if b then 1 else 0)
  | .int a, .int b => a == b
  | .str a, .str b => a == b
  | _, _ => false
def inSeq (d : D) (ds : List D) : Option Bool := if flatD d = true ∧ ds.all flatD = true then some (ds.any fun y => eqF y d) else none
def inB : D → D → Option Bool
  | .str ⟨⟨[c]⟩⟩, .str z => some (decide (c ∈ z.cps.toList))
  | d, .lst ds => inSeq d ds
  | d, .tup ds => inSeq d ds
  | d, .dct kvs => (keyD d).map fun k => (lookK kvs k).isSome
  | _, _ => none
def inD (a b : D) : Option D := (inB a b).map .bl
def notInD (a b : D) : Option D := (inB a b).map fun k => .bl (!k)
theorem flat_v {I : Hp} {v : V} {d : D} (h : Rep I v d) (hf : flatD d = true) : flatV v = true := by
  cases h <;> first | rfl | cases hf
theorem flat_vs {I : Hp} : ∀ {vs : List V} {ds : List D}, Reps I vs ds → ds.all flatD = true → vs.all flatV = true
  | _, _, .nil, _ => rfl
  | _, _, .cons h r, hf => by
    simp only [List.all_cons, Bool.and_eq_true] at hf ⊢
    exact ⟨flat_v h hf.1, flat_vs r hf.2⟩
theorem eqF_eq {I : Hp} {v w : V} {d e : D} (h : Rep I v d) (k : Rep I w e) (hd : flatD d = true) (he : flatD e = true) : eqV v w = eqF d e := by
  cases h <;> first | (cases hd; done) | (cases k <;> first | (cases he; done) | rfl)
theorem any_eq {I : Hp} {w : V} {e : D} (k : Rep I w e) (he : flatD e = true) : ∀ {vs : List V} {ds : List D}, Reps I vs ds → ds.all flatD = true → inV w vs = ds.any fun y => eqF y e
  | _, _, .nil, _ => rfl
  | _, _, .cons h r, hf => by
    simp only [List.all_cons, Bool.and_eq_true] at hf
    show (eqV _ w || inV w _) = (eqF _ e || _)
    rw [eqF_eq h k hf.1 he, any_eq k he r hf.2]
def rInG (K : Frag) (neg : Bool) : R2 := fun v w H Q => (∃ (c : Nat) (z : Str), v = .str ⟨#[c]⟩ ∧ w = .str z ∧ Q (.bl (if neg then !decide (c ∈ z.cps.toList) else decide (c ∈ z.cps.toList))) H) ∨ rIn K neg v w H Q ∨
  ∃ a o, w = .ref a ∧ DGet H a v o ∧ Q (.bl (if neg then !o.isSome else o.isSome)) H
theorem op_inDct (hu : X.A.units + 1 < cLine) : OpR X (compareOp .In) (fun v w H Q => ∃ a o, w = .ref a ∧ DGet H a v o ∧ Q (.bl o.isSome) H) := by
  intro pins s σ H v w u u' Q I r1 r2 h
  obtain ⟨a, o, rfl, g, q⟩ := h
  cases r2
  exact d_in hu I g r1 fun s' I' => ⟨.bl _, H, I', rfl, q⟩
theorem op_notInDct (hu : X.A.units + 1 < cLine) : OpR X (compareOp .NotIn) (fun v w H Q => ∃ a o, w = .ref a ∧ DGet H a v o ∧ Q (.bl (!o.isSome)) H) := by
  intro pins s σ H v w u u' Q I r1 r2 h
  obtain ⟨a, o, rfl, g, q⟩ := h
  cases r2
  exact d_notIn hu I g r1 fun s' I' => ⟨.bl _, H, I', rfl, q⟩
theorem op_inG (hu : X.A.units + 1 < cLine) : OpR X (compareOp .In) (rInG X.K false) := op_in_sign.or (op_in_seq.or (op_inDct hu))
theorem op_notInG (hu : X.A.units + 1 < cLine) : OpR X (compareOp .NotIn) (rInG X.K true) := op_notIn_sign.or (op_notIn_seq.or (op_notInDct hu))
theorem inG_main {K : Frag} {neg : Bool} {y : Xc} {B : Bs} {M : List Nat} {σ : L2.St} {H : Hp} {ρ : Rho} {S : Sx} {I : Hp} {hot : List Addr} {v w : V} {d1 d2 : D} {k : Bool} {Q : VK} (R : Rel K B M σ H ρ S I hot) (r1 : Rep I v d1) (r2 : Rep I w d2) (e : inB d1 d2 = some k)
    (q : After K y B M σ ρ hot (RepA K hot) H I (.ok (.d (.bl (if neg then !k else k))) S) Q) : rInG K neg v w H Q := by
  unfold inB at e
  split at e
  · cases e; cases r1; cases r2
    exact .inl ⟨_, _, rfl, rfl, q.ok R (.d (.bl _))⟩
  · unfold inSeq at e
    split at e
    · rename_i hf
      cases e
      cases r2 with
      | lst hp n hr =>
        refine .inr (.inl ⟨_, _, rfl, .inl (SqL.of (R.wd.ext _ _ hp)), flat_v r1 hf.1, flat_vs hr hf.2, ?_⟩)
        rw [any_eq r1 hf.1 hr hf.2]
        exact q.ok R (.d (.bl _))
    · cases e
  · unfold inSeq at e
    split at e
    · rename_i hf
      cases e
      cases r2 with
      | tup hp n hr =>
        refine .inr (.inl ⟨_, _, rfl, .inr (SqT.of (R.wd.ext _ _ hp)), flat_v r1 hf.1, flat_vs hr hf.2, ?_⟩)
        rw [any_eq r1 hf.1 hr hf.2]
        exact q.ok R (.d (.bl _))
    · cases e
  · rename_i kvs
    cases ek : keyD d1 with
    | none => rw [ek] at e; cases e
    | some key =>
      rw [ek] at e
      cases e
      have ev := keyD_rep r1 ek
      subst ev
      cases r2 with
      | @dct p ws _ hp n hr =>
        refine .inr (.inr ⟨p, valV ws key, rfl, .inl ⟨ws, key, R.wd.ext.rd hp, rfl, rfl⟩, ?_⟩)
        have eq : (valV ws key).isSome = (lookK kvs key).isSome := by
          cases el : lookK kvs key with
          | none => rw [(look_rep hr).2 el]; rfl
          | some d =>
            obtain ⟨v, hv, _⟩ := (look_rep hr).1 d el
            rw [hv]; rfl
        rw [eq]
        exact q.ok R (.d (.bl _))
  · cases e
theorem og_in {K : Frag} : OpG K (rInG K false) inD := by
  intro y B M σ H ρ S I hot v w d1 d2 d Q R r1 r2 e q
  unfold inD at e
  cases e2 : inB d1 d2 with
  | none => rw [e2] at e; cases e
  | some k => rw [e2] at e; cases e; exact inG_main (neg := false) R r1 r2 e2 q
theorem og_notIn {K : Frag} : OpG K (rInG K true) notInD := by
  intro y B M σ H ρ S I hot v w d1 d2 d Q R r1 r2 e q
  unfold notInD at e
  cases e2 : inB d1 d2 with
  | none => rw [e2] at e; cases e
  | some k => rw [e2] at e; cases e; exact inG_main (neg := true) R r1 r2 e2 q

/-! ### d.get(k, n): d a table of the top with text keys and ints -/
def tabGet (tab : List (Str × Int)) (z : Str) (n : Int) : Int := ((tab.find? fun p => decide (p.1 = z)).map (·.2)).getD n
structure Tabl (K : Frag) (w : World) (a : Addr) (tab : List (Str × Int)) : Prop where
  kd : ∃ es n, KDict K w a es n
  val : ∀ z, ∃ r, PySem.W.nsIn K a z = some r ∧ match tab.find? (fun p => decide (p.1 = z)) with
    | some p => ∃ t, r = some (.int p.2 t)
    | none => r = none
def eTab (tab : List (Str × Int)) (f : Fe) (n : Int) : Fe := fun ρ S => (f ρ S).bind fun a S1 => match a with
  | .d (.str z) => .ok (.d (.int (tabGet tab z n))) S1
  | _ => .stuck
theorem ge_tab {tab : List (Str × Int)} {g : Str} {b : Addr} {e : Expr} {f : Fe} {n : Int} {j : Nat} {p p2 apos pos : Pos} (T : Tabl X.K X.w b tab) (hm : X.mg g = some (.ref b)) (he : GE X x M e f) (hgl : Gl X g := by rfl) (hd : (g == ("__debug__" : Str)) = false := by decide)
    (m : M2 X (.Name g p) "get" apos e (.Constant (.int n) j p2) pos := by exact ⟨rfl, rfl, rfl, rfl⟩) :
    GE X x M (.Call (.Attribute (.Name g p) "get" apos) [e, .Constant (.int n) j p2] [] pos) (eTab tab f n) := by
  refine ⟨fun pins s σ H Q I h => ?_⟩
  obtain ⟨B, ρ, S, J, hot, R, h⟩ := h
  obtain ⟨es, en, D⟩ := T.kd
  have ho : PE X (.Name g p) (tC (.ref b)) := pe_glob hgl hm rfl hd
  refine wpAny_Call_method m.base m.few m.line PySem.F.plainAttrs_dict PySem.F.slot_dict_get PySem.F.type_dict_get (thn (ho.run pins s σ H (fun v H1 => v = .ref b ∧ H1 = H) I ⟨rfl, rfl⟩) ?_)
  rintro u s1 ⟨v, H1, I1, rv, rfl, rfl⟩
  cases rv
  have mo : ∀ s2 : Shared, X.K.In s2.heap → _ := fun s2 k => PySem.W.mapOf_K (prog := X.prog) (w := X.w) k D.at_ D.lit
  refine ⟨(mo s1 I1.kIn).typeIs, fun a e => ?_, ?_⟩
  · cases e
    exact ⟨_, I1.kIn _ _ D.at_, rfl⟩
  rw [m.trees]
  refine Calls.callWith_builtin rfl (Calls.evalArgs_plain (Calls.spliced_cons (thn (PE.run he pins s1 σ _ _ I1 ⟨B, ρ, S, J, hot, R, h.bind⟩) ?_)))
  rintro iv s2 ⟨v, H2, I2, rv, J2, S2, a, R2, st2, r2, _, h2⟩
  cases a with
  | d u =>
    cases u with
    | str z =>
      have q := r2.dat
      cases q
      obtain ⟨t, rfl⟩ := rv
      refine Calls.spliced_cons (thn ((pe_int (X := X) (i := n) (j := j) (pos := p2)).run pins s2 σ H2 (fun v H1 => v = .int n ∧ H1 = H2) I2 ⟨rfl, rfl⟩) ?_)
      rintro fv s3 ⟨v3, H3, I3, rv3, rfl, rfl⟩
      refine Calls.spliced_nil ?_
      refine call_meetsIn PySem.F.slot_dict_get (mo s3 I3.kIn).typeIs PySem.F.entry_dict_get (PySem.F.args_dict_get_3 _ _ _) (meets_dict_get_default (PySem.strKind X.prog X.w) b (PySem.strKind_is X.prog X.w z t) D.low fv) ⟨_, mo s3 I3.kIn, ?_⟩
      obtain ⟨r, hr, hv⟩ := T.val z
      rw [PySem.W.find_K D.at_ hr]
      have fin : ∀ k : Int, tabGet tab z n = k → RelV (.int k) (r.getD fv) → EP X pins σ Q (r.getD fv) { s3 with toks := s3.toks + 1 } := fun k ek rk => by
        refine ⟨.int k, H3, I3.tok _, rk, ?_⟩
        rw [← ek]
        exact After.ok (S := S2) h2 R2 (.d (.int _))
      cases ef : tab.find? (fun p => decide (p.1 = z)) with
      | none =>
        rw [ef] at hv
        subst hv
        exact fin n (by unfold tabGet; rw [ef]; rfl) rv3
      | some pr =>
        rw [ef] at hv
        obtain ⟨t', rfl⟩ := hv
        exact fin pr.2 (by unfold tabGet; rw [ef]; rfl) ⟨t', rfl⟩
    | _ => exact h2.elim
  | _ => exact h2.elim

/-! ### list(d.keys()), sorted(d.keys()) -/
def keyVal : Key → D
  | .inl i => .int i
  | .inr z => .str z
def keysD : D → Option D
  | .dct kvs => some (.lst (kvs.map fun kv => keyVal kv.1))
  | _ => none
def eKeys (f : Fe) : Fe := fun ρ S => (f ρ S).bind fun a S1 => match a with
  | .d u => ofO (keysD u) S1
  | _ => .stuck
/-- d.keys(), the view at r -/
theorem keys_run {Y : Cx} {A : Around} {E : Value → Shared → Prop} {pins : List (Addr × Obj)} {σ : L2.St} {H : Hp} {s : Shared} {a : Addr} {kvs : List (Key × V)} {Q : Value → Shared → Prop} (I : Inv Y pins σ H s) (e : Rd H a (.dK kvs))
    (h : ∀ s', Inv Y pins σ H s' → PySem.W.KdlKeysView s'.heap s.heap.objs.size a → s'.gens = s.gens → Q (.ref s.heap.objs.size) s') : wpAny (model Y.prog Y.w) A (call (.builtin "dict.keys") [.ref a]) Q E s := by
  obtain ⟨z, hd, vs, rel, dd⟩ := dk_rd I.hok e
  refine call_meetsIn PySem.F.slot_dict_keys dd.typeIs PySem.F.entry_dict_keys (PySem.F.args_dict_keys_1 _) (PySem.W.kdl_meets_keys (mixKind Y.prog Y.w) a hd) ⟨⟨_, dd⟩, ?_⟩
  exact h _ (I.kept (t' := s.toks) fun b o e => Heap.get?_push_of_some _ e) ⟨_, Heap.get?_push_size _ rfl, rfl, rfl⟩ rfl
theorem keyVal_reps {I : Hp} : ∀ {ws : List (Key × V)} {kvs : List (Key × D)}, Repk I ws kvs → ∀ J : Hp, Reps J (ws.map fun kv => kV kv.1) (kvs.map fun kv => keyVal kv.1)
  | _, _, .nil, _ => .nil
  | _, _, .cons (k := k) hk h r, J => .cons (by cases k with
    | inl i => exact .int i
    | inr z => exact .str z hk) (keyVal_reps r J)
end
end G
namespace G
open PySem PySem.Spec L2 PyProof.Rows
open PySem.W (Frag)
open Classical

/-- the keys' view of the dict at a, at p -/
def KvO (a p : Addr) : HO := .ext fun h => PySem.W.KdlKeysView h p a
theorem kvO_ok {P : Program} {w : World} {H : Hp} {h : Heap} {a p : Addr} (e : PySem.W.KdlKeysView h p a) : ObjOk P w H h p (KvO a p) := by
  obtain ⟨o, ho, r⟩ := id e
  exact ⟨e, ⟨o, ho⟩, fun h1 h2 ⟨o1, q1, r1⟩ k => ⟨o1, k _ q1, r1⟩⟩
def tKeys (td : TE) : TE := fun σ H Q => td σ H fun v H1 => ∃ a kvs, v = .ref a ∧ Rd H1 a (.dK kvs) ∧ ∀ p, H1 p = none → Q (.ref p) (upd H1 p (KvO a p))
section
variable {X : Cx} {x : Xc} {M : List Nat}
theorem pe_keys {o : Expr} {td : TE} {apos cpos : Pos} (ho : PE X o td) (hbase : attributeBase o "keys" X.env (eval o X.env) = eval o X.env := by rfl) (hline : (apos.endLine == cpos.line) = true := by rfl) :
    PE X (.Call (.Attribute o "keys" apos) [] [] cpos) (tKeys td) := by
  refine ⟨fun pins s σ H Q I h => ?_⟩
  refine wpAny_Call_method0_late hbase hline (thn (ho.run pins s σ H _ I h) ?_)
  rintro v s1 ⟨z, H1, I1, r1, a, kvs, rfl, hd, q1⟩
  cases r1
  obtain ⟨t1, t2, _⟩ := isD_at I1 (.inl ⟨_, hd⟩)
  refine ⟨"dict", "dict.keys", PySem.F.plainAttrs_dict, PySem.F.slot_dict_keys, PySem.F.type_dict_keys, t1, t2, Calls.callWith_builtin rfl (PySem.evalArgs_none ?_)⟩
  obtain ⟨_, hm, vs, rel, dd⟩ := dk_rd I1.hok hd
  refine call_meetsIn PySem.F.slot_dict_keys dd.typeIs PySem.F.entry_dict_keys (PySem.F.args_dict_keys_1 _) (PySem.W.kdl_meets_keys (mixKind X.prog X.w) a hm) ⟨⟨_, dd⟩, ?_⟩
  refine ⟨.ref s1.heap.objs.size, upd H1 s1.heap.objs.size (KvO a s1.heap.objs.size), I1.laid (t' := s1.toks) (fun b u e => Heap.get?_push_of_some _ e) (Nat.le_refl _) (kvO_ok ⟨_, Heap.get?_push_size _ rfl, rfl, rfl⟩), rfl, q1 _ (I1.hok.fresh (Nat.le_refl _))⟩
/-- what is collected of a view -/
theorem view_vals {P : Program} {w : World} {kvs : List (Key × V)} {vs : List (Key × Value)} (rel : KV kvs vs) {acc : Array Value} (h : ItemsOf (fun i v => ∃ k y, vs[i]? = some (k, y) ∧ (mixKind P w).is k v = true) acc vs.length) : Vals (kvs.map fun kv => kV kv.1) acc.toList := by
  have hl : kvs.length = vs.length := Paired.length rel
  have el : acc.toList.length = acc.size := by simp
  refine vals_of_at (by rw [List.length_map, el, h.1, hl]) fun j v u h1 h2 => ?_
  obtain ⟨k, y, hk, hi⟩ := h.2 j u (by rw [← Array.getElem?_toList]; exact h2)
  have e1 : (kvs.map (·.1))[j]? = some k := by rw [KV.keys rel, List.getElem?_map, hk]; rfl
  have e2 : (kvs.map fun kv => kV kv.1)[j]? = some (kV k) := by
    have e3 : (kvs.map fun kv => kV kv.1) = (kvs.map (·.1)).map kV := by rw [List.map_map]; rfl
    rw [e3, List.getElem?_map, e1]; rfl
  rw [e2] at h1
  cases h1
  exact keyIs_rel hi
def rListView : List V → Hp → VK → Prop := fun xs H Q => ∃ p a kvs, xs = [.ref p] ∧ H p = some (KvO a p) ∧ Rd H a (.dK kvs) ∧ ∀ q, H q = none → Q (.ref q) (upd H q (.lst (kvs.map fun kv => kV kv.1)))
theorem call_listView (hc : X.calm = true) : CallR X (.type "list") rListView := by
  intro pins s σ H xs us Q I r h
  obtain ⟨p, a, kvs, rfl, hp, hd, q⟩ := h
  rw [Vals.ref1 r]
  obtain ⟨z, lo, vs, rel, dd⟩ := dk_rd I.hok hd
  obtain ⟨ep, hat⟩ := dd.dictAt
  have hl : kvs.length = vs.length := Paired.length rel
  have hv : PySem.W.KdlKeysView s.heap p a := (I.hok p _ hp).1
  refine PySem.W.kdl_call (PySem.W.kdl_keys (knd := mixKind X.prog X.w) (kvs := vs) (ep := ep) (r := p) (d := a)) (I.ok.hd hc) ⟨hv, hat⟩ (by rw [← hl]; exact z) fun h' tk acc c hk hS hacc => ?_
  refine ⟨.ref s.heap.objs.size, upd H s.heap.objs.size (.lst (kvs.map fun kv => kV kv.1)), I.laid hk (Nat.le_refl _) (show ObjOk X.prog X.w _ _ _ (.lst (kvs.map fun kv => kV kv.1)) from ⟨?_, acc.toList, c, view_vals rel hacc, ?_⟩), rfl, q _ (I.hok.fresh (Nat.le_refl _))⟩
  · rw [List.length_map]; exact z
  · rw [Array.toArray_toList]; exact hS
def rSortView : List V → Hp → VK → Prop := fun xs H Q => ∃ p a kvs, ∃ ks : List Str, xs = [.ref p] ∧ H p = some (KvO a p) ∧ Rd H a (.dK kvs) ∧ kvs.map (·.1) = ks.map Sum.inr ∧ ks.length < 64 ∧
  ∀ ys q, ys.Perm ks → sortedS ys = true → H q = none → Q (.ref q) (upd H q (.lst (ys.map V.str)))
theorem call_sortView (hc : X.calm = true) : CallR X (.builtin "sorted") rSortView := by
  intro pins s σ H xs us Q I r h
  obtain ⟨p, a, kvs, ks, rfl, hp, hd, hks, h64, q⟩ := h
  rw [Vals.ref1 r]
  obtain ⟨z, lo, vs, rel, dd⟩ := dk_rd I.hok hd
  obtain ⟨ep, hat⟩ := dd.dictAt
  have hv : PySem.W.KdlKeysView s.heap p a := (I.hok p _ hp).1
  have hkv : kvs.length = ks.length := by have e := congrArg List.length hks; simpa using e
  have hl : vs.length = ks.length := by rw [← Paired.length rel]; exact hkv
  have h16 : vs.length ≤ sizeLine := by rw [hl, sizeLine_eq]; omega
  refine Calls.call_function_entry PyProof.Rows.kind_sorted PyProof.Rows.plain_sorted PyProof.Rows.entry_sorted (PyProof.Rows.args_sorted1 _) ?_
  unfold Builtin.«sorted»
  refine wpAny_bind (m := checkCount "sorted" 1 1 _) (wpAny_pure ?_)
  refine wpAny_bind (PySem.W.kdu_collect (A := X.A.in1) (PySem.W.kdl_keys (knd := mixKind X.prog X.w) (kvs := vs) (ep := ep) (r := p) (d := a)) (I.ok.hd hc) ⟨hv, hat⟩ h16 ?_)
  intro h' tk acc hk hacc
  have va := view_vals rel hacc
  have em : (kvs.map fun kv => kV kv.1) = ks.map V.str := by
    have e3 : (kvs.map fun kv => kV kv.1) = (kvs.map (·.1)).map kV := by rw [List.map_map]; rfl
    rw [e3, hks, List.map_map]; rfl
  rw [em] at va
  have hS : PyProof.Rows.StrsAre acc.toList ks := va.strs
  have hal : acc.toList.length = ks.length := by rw [← va.length, List.length_map]
  have I1 : Inv X pins σ H { s with heap := h', toks := tk } := I.kept hk
  refine wpAny_bind (wpAny_newList ?_ (by rw [hal, sizeLine_eq]; omega))
  have ho : (h'.push (seqObj "list" acc.toList.toArray 0)).get? h'.objs.size = some (seqObj "list" acc.toList.toArray 0) := Heap.get?_push_size _ rfl
  show wpAny _ _ _ _ _ { s with heap := h'.push (seqObj "list" acc.toList.toArray 0), toks := tk }
  refine wpAny_bind (wpAny_holding (wpAny_call_entry PyProof.Rows.slot_list_sort ⟨_, ho, rfl⟩ PyProof.Rows.entry_list_sort ?_ (PyProof.Rows.args_list_sort _)))
  refine list_sort_treeK strKind_oneLt (s := { s with heap := h'.push (seqObj "list" acc.toList.toArray 0), toks := tk }) ho hS.keysOf (fun v₁ v₂ rest e => keyKind_strs (by rw [← e]; exact hS)) (by rw [hal]; exact h64) fun st pm so => ⟨_, rfl, ?_⟩
  obtain ⟨ys, g1, g2, g3⟩ := sorted_out_str hS pm so
  obtain ⟨e', he'⟩ := PyProof.Rows.sortedHeap_at (vs := acc.toList) (out := (arrOf st).map (·.2)) ho
  have hz : (ys.map V.str).length ≤ sizeLine := by
    rw [List.length_map, g2.length_eq]; exact Nat.le_trans (Nat.le_of_lt h64) (by decide)
  refine wpAny_pure ⟨_, rfl, .ref h'.objs.size, upd H h'.objs.size (.lst (ys.map V.str)), I1.laid (t' := tk) (fun b u e => ?_) (Nat.le_refl _)
    (show ObjOk X.prog X.w _ _ _ (.lst (ys.map V.str)) from ⟨hz, ((arrOf st).map (·.2)).toList, e', vals_of_strs g1, by rw [Array.toArray_toList]; exact he'⟩), rfl, q ys _ g2 g3 (I1.hok.fresh (Nat.le_refl _))⟩
  have hb : b < h'.objs.size := Heap.lt_size e
  rw [PyProof.Rows.sortedHeap_old (Nat.ne_of_lt hb) (by rw [size_push']; exact Nat.lt_succ_of_lt hb)]
  exact Heap.get?_push_of_some _ e

/-- an object that is none of ours -/
theorem stp_add {hot : List Addr} {H I : Hp} {p : Addr} {o : HO} (h : H p = none) : Stp hot H I (upd H p o) I :=
  ⟨Ext.refl _, fun a u e _ => by rw [upd_ne (ne_of_none e h)]; exact e, fun a u e => ⟨u, by rw [upd_ne (ne_of_none e h)]; exact e⟩, fun a u e => .inl e⟩
theorem Wld.add {K : Frag} {H : Hp} {S : Sx} {I : Hp} {hot : List Addr} {p : Addr} {o : HO} (w : Wld K H S I hot) (h : H p = Option.none) : Wld K (upd H p o) S I hot :=
  ⟨fun a u e => by rw [upd_ne (ne_of_none (w.ext a u e) h)]; exact w.ext a u e, w.len, fun k a hv e1 e2 => (w.at_ k a hv e1 e2).at fun o e => by rw [upd_ne (ne_of_none e h)]; exact e, w.off, w.nd⟩
theorem Rel.add {K : Frag} {B : Bs} {σ : L2.St} {H : Hp} {ρ : Rho} {S : Sx} {I : Hp} {hot : List Addr} {p : Addr} {o : HO} (r : Rel K B M σ H ρ S I hot) (h : H p = none) : Rel K B M σ (upd H p o) ρ S I hot := r.step (stp_add h) (r.wd.add h)

theorem ge_listKeys {e : Expr} {f : Fe} {p pos apos cpos : Pos} (he : GE X x M e f) (hm : X.mg "list" = none) (hc : X.calm = true := by rfl) (hgl : Gl X "list" := by rfl) (hbase : attributeBase e "keys" X.env (eval e X.env) = eval e X.env := by rfl) (hline : (apos.endLine == cpos.line) = true := by rfl)
    (hs : starEach [.Call (.Attribute e "keys" apos) [] [] cpos] X.env = (false, eval (.Call (.Attribute e "keys" apos) [] [] cpos) X.env) :: starEach [] X.env := by rfl) (hpl : (backTo pos (starEach [] X.env)).any (·.1) = false := by rfl) :
    GE X x M (.Call (.Name "list" p) [.Call (.Attribute e "keys" apos) [] [] cpos] [] pos) (eKeys f) := by
  refine PE.weak (pe_callTy (call_listView hc) hgl hm PyProof.Rows.boot_list (pa_cons (pe_keys he hbase hline) pa_nil hs) (by decide) (by decide) hs hpl) ?_
  rintro σ H Q ⟨B, ρ, S, I, hot, R, h⟩
  refine ⟨B, ρ, S, I, hot, R, h.bind.mono ?_⟩
  rintro v H1 ⟨I1, S1, a, R1, s1, r1, _, h1⟩
  cases a with
  | d u =>
    cases u with
    | dct kvs =>
      have q := r1.dat
      cases q with
      | @dct b ws _ hp n hr =>
        refine ⟨b, ws, rfl, R1.wd.ext.rd hp, fun w hw => ?_⟩
        have h2 : After X.K x B M σ ρ hot (RepA X.K hot) H1 I1 (ofO (some (.lst (kvs.map fun kv => keyVal kv.1))) S1) Q := h1
        have R2 := R1.add (o := KvO b w) hw
        have hb : b ≠ w := by
          rcases R1.wd.ext.rd hp with z | ⟨o, z⟩
          · exact ne_of_none z hw
          · exact ne_of_none z hw
        refine ⟨w, b, ws, rfl, upd_same, ?_, fun y hy => ?_⟩
        · rcases R1.wd.ext.rd hp with z | ⟨o, z⟩
          · exact .inl (by rw [upd_ne hb]; exact z)
          · exact .inr ⟨o, by rw [upd_ne hb]; exact z⟩
        · exact After.new (S := S1) (After.from h2 (stp_add hw)) R2 hy (.d (.lst upd_same (by rw [List.length_map]; exact n) (keyVal_reps hr _)))
    | _ => exact h1.elim
  | _ => exact h1.elim
/-- the texts in their order -/
noncomputable def sortK (ks : List Str) : List Str := if h : ∃ ys : List Str, ys.Perm ks ∧ sortedS ys = true then Classical.choose h else ks
theorem le_of_lt {a b : Str} (h : ltCps b.cps.toList a.cps.toList = false) : a.cps.toList ≤ b.cps.toList := by
  rw [ltCps_eq] at h
  exact List.not_lt.mp (of_decide_eq_false h)
theorem rising_pw : ∀ (l : List Str) (p : Str), risingS p l = true → (p :: l).Pairwise fun a b => a.cps.toList ≤ b.cps.toList
  | [], p, _ => by simp
  | y :: r, p, h => by
    have h' : (!ltCps y.cps.toList p.cps.toList && risingS y r) = true := h
    simp only [Bool.and_eq_true, Bool.not_eq_true'] at h'
    have ih := rising_pw r y h'.2
    have le := le_of_lt h'.1
    refine List.pairwise_cons.mpr ⟨fun z hz => ?_, ih⟩
    rcases List.mem_cons.mp hz with rfl | hz
    · exact le
    · exact List.le_trans le (List.rel_of_pairwise_cons ih hz)
theorem sorted_pw (l : List Str) (h : sortedS l = true) : l.Pairwise fun a b => a.cps.toList ≤ b.cps.toList := by
  cases l with
  | nil => exact .nil
  | cons p r => exact rising_pw r p h
theorem sorted_one {a b : List Str} (p : a.Perm b) (ha : sortedS a = true) (hb : sortedS b = true) : a = b :=
  p.eq_of_pairwise (fun y z _ _ h1 h2 => by
    have e := List.le_antisymm h1 h2
    obtain ⟨⟨c⟩⟩ := y
    obtain ⟨⟨d⟩⟩ := z
    cases (show c = d from e)
    rfl) (sorted_pw a ha) (sorted_pw b hb)
theorem sortK_eq {ks ys : List Str} (p : ys.Perm ks) (h : sortedS ys = true) : sortK ks = ys := by
  have ex : ∃ ys : List Str, ys.Perm ks ∧ sortedS ys = true := ⟨ys, p, h⟩
  unfold sortK
  rw [dif_pos ex]
  have c := Classical.choose_spec ex
  exact sorted_one (c.1.trans p.symm) c.2 h
def keyStrs : List (Key × D) → Option (List Str)
  | [] => some []
  | (.inr z, _) :: r => (keyStrs r).map (z :: ·)
  | _ :: _ => none
noncomputable def sortKeysD : D → Option D
  | .dct kvs => (keyStrs kvs).bind fun ks => if ks.length < 64 then some (.lst ((sortK ks).map .str)) else none
  | _ => none
noncomputable def eSortKeys (f : Fe) : Fe := fun ρ S => (f ρ S).bind fun a S1 => match a with
  | .d u => ofO (sortKeysD u) S1
  | _ => .stuck
theorem keyStrs_map {I : Hp} : ∀ {ws : List (Key × V)} {kvs : List (Key × D)} {ks : List Str}, Repk I ws kvs → keyStrs kvs = some ks → ws.map (·.1) = ks.map Sum.inr
  | _, _, _, .nil, e => by cases e; rfl
  | _, _, _, .cons (k := k) _ h r, e => by
    cases k with
    | inl i => cases e
    | inr z =>
      simp only [keyStrs] at e
      cases e2 : keyStrs _ with
      | none => rw [e2] at e; cases e
      | some ks =>
        rw [e2] at e; cases e
        simp [keyStrs_map r e2]
theorem strs_rep (I : Hp) : ∀ zs : List Str, (∀ z ∈ zs, z.length ≤ sizeLine) → Reps I (zs.map V.str) (zs.map .str)
  | [], _ => .nil
  | z :: r, h => .cons (.str z (h z List.mem_cons_self)) (strs_rep I r fun y hy => h y (List.mem_cons_of_mem _ hy))
theorem keyStrs_len {I : Hp} : ∀ {ws : List (Key × V)} {kvs : List (Key × D)} {ks : List Str}, Repk I ws kvs → keyStrs kvs = some ks → ∀ z ∈ ks, z.length ≤ sizeLine
  | _, _, _, .nil, e => by cases e; simp
  | _, _, _, .cons (k := k) hk h r, e => by
    cases k with
    | inl i => cases e
    | inr z =>
      simp only [keyStrs] at e
      cases e2 : keyStrs _ with
      | none => rw [e2] at e; cases e
      | some ks =>
        rw [e2] at e; cases e
        intro y hy
        rcases List.mem_cons.mp hy with rfl | hy
        · exact hk
        · exact keyStrs_len r e2 y hy
theorem ge_sortKeys {e : Expr} {f : Fe} {p pos apos cpos : Pos} (he : GE X x M e f) (hm : X.mg "sorted" = none) (hc : X.calm = true := by rfl) (hgl : Gl X "sorted" := by rfl) (hbase : attributeBase e "keys" X.env (eval e X.env) = eval e X.env := by rfl) (hline : (apos.endLine == cpos.line) = true := by rfl)
    (hs : starEach [.Call (.Attribute e "keys" apos) [] [] cpos] X.env = (false, eval (.Call (.Attribute e "keys" apos) [] [] cpos) X.env) :: starEach [] X.env := by rfl) (hpl : (backTo pos (starEach [] X.env)).any (·.1) = false := by rfl) :
    GE X x M (.Call (.Name "sorted" p) [.Call (.Attribute e "keys" apos) [] [] cpos] [] pos) (eSortKeys f) := by
  refine PE.weak (pe_callB (call_sortView hc) hgl hm PyProof.Rows.boot_sorted (pa_cons (pe_keys he hbase hline) pa_nil hs) (by decide) (by decide) hs hpl) ?_
  rintro σ H Q ⟨B, ρ, S, I, hot, R, h⟩
  refine ⟨B, ρ, S, I, hot, R, h.bind.mono ?_⟩
  rintro v H1 ⟨I1, S1, a, R1, s1, r1, _, h1⟩
  cases a with
  | d u =>
    cases u with
    | dct kvs =>
      have q := r1.dat
      cases q with
      | @dct b ws _ hp n hr =>
        refine ⟨b, ws, rfl, R1.wd.ext.rd hp, fun w hw => ?_⟩
        have h2 : After X.K x B M σ ρ hot (RepA X.K hot) H1 I1 (ofO ((keyStrs kvs).bind fun ks => if ks.length < 64 then some (.lst ((sortK ks).map .str)) else none) S1) Q := h1
        cases ek : keyStrs kvs with
        | none => rw [ek] at h2; exact h2.elim
        | some ks =>
          rw [ek] at h2
          dsimp only [Option.bind_some] at h2
          split at h2
          · have R2 := R1.add (o := KvO b w) hw
            have hb : b ≠ w := by
              rcases R1.wd.ext.rd hp with z | ⟨o, z⟩
              · exact ne_of_none z hw
              · exact ne_of_none z hw
            refine ⟨w, b, ws, ks, rfl, upd_same, ?_, keyStrs_map hr ek, by assumption, fun ys y pm so hy => ?_⟩
            · rcases R1.wd.ext.rd hp with z | ⟨o, z⟩
              · exact .inl (by rw [upd_ne hb]; exact z)
              · exact .inr ⟨o, by rw [upd_ne hb]; exact z⟩
            · rw [sortK_eq pm so] at h2
              refine After.new (S := S1) (After.from h2 (stp_add hw)) R2 hy (.d (.lst upd_same ?_ (strs_rep _ ys fun z hz => keyStrs_len hr ek z (pm.mem_iff.mp hz))))
              rw [List.length_map, pm.length_eq, sizeLine_eq]; omega
          · exact h2.elim
    | _ => exact h1.elim
  | _ => exact h1.elim
end
end G
namespace G
open PySem L2
open PySem.W (Frag)
open Classical

/-! ### what is walked -/
abbrev Fi := Rho → Sx → Res (List D)
/-- the walk J gives ds, while what I holds stands -/
def RepI (I : Hp) (J : It) (ds : List D) : Prop := ds.length ≤ sizeLine ∧ Walk J ds.length (fun H => Ext I H) (fun i H v H' => H' = H ∧ ∃ d, ds[i]? = some d ∧ Rep I v d)
def iOf (K : Frag) (x : Xc) (M : List Nat) (f : Fi) : TI := fun σ H R => ∃ B ρ S I hot, Rel K B M σ H ρ S I hot ∧ After K x B M σ ρ hot RepI H I (f ρ S) R
def GI (X : Cx) (x : Xc) (M : List Nat) (tg it : Expr) (f : Fi) : Prop := PI X tg it (iOf X.K x M f)
def signs (z : Str) : List D := z.cps.toList.map fun c => .str ⟨#[c]⟩
def itemsOf : A → Option (List D)
  | .d (.lst ds) => some ds
  | .d (.tup ds) => some ds
  | .d (.str z) => some (signs z)
  | _ => none
def iSeq (f : Fe) : Fi := fun ρ S => (f ρ S).bind fun a S1 => match itemsOf a with
  | some ds => .ok ds S1
  | none => .stuck
section
variable {X : Cx} {x : Xc} {M : List Nat} {tg : Expr}
theorem PI.weak {it : Expr} {t t' : TI} (h : PI X tg it t) (k : ∀ σ H R, t' σ H R → t σ H R) : PI X tg it t' := ⟨fun pins s σ H R I q => h.run pins s σ H R I (k σ H R q)⟩
theorem PI.or {it : Expr} {t u : TI} (h : PI X tg it t) (k : PI X tg it u) : PI X tg it (fun σ H R => t σ H R ∨ u σ H R) := ⟨fun pins s σ H R I q => by
  rcases q with q | q
  · exact h.run pins s σ H R I q
  · exact k.run pins s σ H R I q⟩
theorem walkI_list {K : Frag} {I : Hp} {a : Addr} {vs : List V} {ds : List D} (h : I a = some (.lst vs)) (r : Reps I vs ds) (z : vs.length ≤ sizeLine) : RepI I (Itl K a) ds := by
  refine ⟨by rw [← r.length]; exact z, ?_⟩
  have w := walk_list (K := K) (a := a) (xs := vs)
  rw [r.length] at w
  refine w.mono (fun H e => SqL.of (e _ _ h)) fun i H v H' _ _ ⟨e, y⟩ => ⟨e, ?_⟩
  exact r.getV y
theorem walkI_tup {K : Frag} {I : Hp} {a : Addr} {vs : List V} {ds : List D} (h : I a = some (.tup vs)) (r : Reps I vs ds) (z : vs.length ≤ sizeLine) : RepI I (Itt K a) ds := by
  refine ⟨by rw [← r.length]; exact z, ?_⟩
  have w := walk_tup (K := K) (a := a) (xs := vs)
  rw [r.length] at w
  refine w.mono (fun H e => SqT.of (e _ _ h)) fun i H v H' _ _ ⟨e, y⟩ => ⟨e, ?_⟩
  exact r.getV y
theorem walkI_str {I : Hp} {z : Str} (h : z.length ≤ sizeLine) : RepI I (Its z) (signs z) := by
  have el : (signs z).length = z.cps.size := by unfold signs; simp
  refine ⟨by rw [el]; exact h, ?_⟩
  rw [el]
  refine (walk_str (z := z)).mono (fun _ _ => trivial) fun i H v H' _ _ ⟨e, c, h1, h2⟩ => ⟨e, .str ⟨#[c]⟩, ?_, ?_⟩
  · unfold signs
    rw [List.getElem?_map, Array.getElem?_toList, h1]; rfl
  · rw [h2]; exact .str _ (by show 1 ≤ sizeLine; decide)
def rangeD (lo : Int) (n : Nat) : List D := (List.range n).map fun i => .int (lo + (i : Nat))
theorem walkI_range {I : Hp} {lo : Int} {n : Nat} (h : n ≤ sizeLine) : RepI I (Itr lo n) (rangeD lo n) := by
  have el : (rangeD lo n).length = n := by unfold rangeD; simp
  refine ⟨by rw [el]; exact h, ?_⟩
  rw [el]
  refine (walk_range (lo := lo) (n := n)).mono (fun _ _ => trivial) fun i H v H' hi _ ⟨e, h2⟩ => ⟨e, .int (lo + (i : Nat)), ?_, ?_⟩
  · unfold rangeD
    rw [List.getElem?_map, List.getElem?_range hi]; rfl
  · rw [h2]; exact .int _
def kindOf (r : Res A) : Nat := match r with
  | .ok (.d (.lst _)) _ => 1
  | .ok (.d (.tup _)) _ => 2
  | _ => 0
theorem gi_seq {e : Expr} {f : Fe} (he : GE X x M e f) : GI X x M tg e (iSeq f) := by
  refine PI.weak (PI.or (pi_list he) (PI.or (pi_tup he) (pi_str he))) ?_
  rintro σ H R ⟨B, ρ, S, I, hot, Rl, h⟩
  by_cases k1 : kindOf (f ρ S) = 1
  · refine .inl ⟨B, ρ, S, I, hot, Rl, h.bind.mono ?_⟩
    rintro v H1 ⟨I1, S1, a, R1, s1, r1, e1, h1⟩
    rw [e1] at k1
    cases r1 with
    | d q =>
      cases q with
      | @lst p vs ds hp n hr => exact ⟨p, rfl, ⟨vs, SqL.of (R1.wd.ext _ _ hp)⟩, After.ok (S := S1) (RX := RepI) h1 R1 (walkI_list hp hr n)⟩
      | _ => simp [kindOf] at k1
    | _ => simp [kindOf] at k1
  · by_cases k2 : kindOf (f ρ S) = 2
    · refine .inr (.inl ⟨B, ρ, S, I, hot, Rl, h.bind.mono ?_⟩)
      rintro v H1 ⟨I1, S1, a, R1, s1, r1, e1, h1⟩
      rw [e1] at k2
      cases r1 with
      | d q =>
        cases q with
        | @tup p vs ds hp n hr => exact ⟨p, rfl, ⟨vs, SqT.of (R1.wd.ext _ _ hp)⟩, After.ok (S := S1) (RX := RepI) h1 R1 (walkI_tup hp hr n)⟩
        | _ => simp [kindOf] at k2
      | _ => simp [kindOf] at k2
    · refine .inr (.inr ⟨B, ρ, S, I, hot, Rl, h.bind.mono ?_⟩)
      rintro v H1 ⟨I1, S1, a, R1, s1, r1, e1, h1⟩
      rw [e1] at k1 k2
      cases r1 with
      | d q =>
        cases q with
        | str z hz => exact ⟨z, rfl, After.ok (S := S1) (RX := RepI) h1 R1 (walkI_str hz)⟩
        | lst _ _ _ => exact absurd rfl k1
        | tup _ _ _ => exact absurd rfl k2
        | _ => exact h1.elim
      | _ => exact h1.elim
def iRng1 (f : Fe) : Fi := fun ρ S => (f ρ S).bind fun a S1 => match a with
  | .d (.int j) => if -(2 ^ 30) ≤ j ∧ j ≤ sizeLine then .ok (rangeD 0 j.toNat) S1 else .stuck
  | _ => .stuck
def iRng2 (f g : Fe) : Fi := fun ρ S => (f ρ S).bind fun a S1 => (g ρ S1).bind fun b S2 => match a, b with
  | .d (.int i), .d (.int j) => if -(2 ^ 30) ≤ i ∧ i ≤ 2 ^ 30 ∧ -(2 ^ 30) ≤ j ∧ j ≤ 2 ^ 30 ∧ j - i ≤ sizeLine then .ok (rangeD i (j - i).toNat) S2 else .stuck
  | _, _ => .stuck
theorem gi_range1 {a : Expr} {f : Fe} {p pos : Pos} (ha : GE X x M a f) (hm : X.mg "range" = none) (hgl : Gl X "range" := by rfl) (hs : starEach [a] X.env = [(false, eval a X.env)] := by rfl) : GI X x M tg (.Call (.Name "range" p) [a] [] pos) (iRng1 f) := by
  have hs' : starEach [a] X.env = (false, eval a X.env) :: starEach [] X.env := hs
  refine PI.weak (pi_range1 hgl hm (pa_cons ha pa_nil hs') hs) ?_
  rintro σ H R ⟨B, ρ, S, I, hot, Rl, h⟩
  refine ⟨B, ρ, S, I, hot, Rl, h.bind.mono ?_⟩
  rintro v H1 ⟨I1, S1, a, R1, s1, r1, e1, h1⟩
  cases a with
  | d u =>
    cases u with
    | int j =>
      have q := r1.dat
      cases q
      have h2 : After X.K x B M σ ρ hot RepI H1 I1 (if -(2 ^ 30) ≤ j ∧ j ≤ sizeLine then .ok (rangeD 0 j.toNat) S1 else .stuck) R := h1
      split at h2
      · rename_i hj
        have h24 : sizeLine = 16777216 := sizeLine_eq
        exact ⟨j, rfl, by omega, by omega, After.ok (S := S1) (RX := RepI) h2 R1 (walkI_range (lo := 0) (by omega))⟩
      · exact h2.elim
    | _ => exact h1.elim
  | _ => exact h1.elim
theorem gi_range2 {a b : Expr} {f g : Fe} {p pos : Pos} (ha : GE X x M a f) (hb : GE X x M b g) (hm : X.mg "range" = none) (hgl : Gl X "range" := by rfl) (hs : starEach [a, b] X.env = [(false, eval a X.env), (false, eval b X.env)] := by rfl) (hs2 : starEach [b] X.env = [(false, eval b X.env)] := by rfl) : GI X x M tg (.Call (.Name "range" p) [a, b] [] pos) (iRng2 f g) := by
  have hs' : starEach [a, b] X.env = (false, eval a X.env) :: starEach [b] X.env := by rw [hs, hs2]
  have hs2' : starEach [b] X.env = (false, eval b X.env) :: starEach [] X.env := hs2
  refine PI.weak (pi_range2 hgl hm (pa_cons ha (pa_cons hb pa_nil hs2') hs') hs hs2) ?_
  rintro σ H R ⟨B, ρ, S, I, hot, Rl, h⟩
  refine ⟨B, ρ, S, I, hot, Rl, h.bind.mono ?_⟩
  rintro v H1 ⟨I1, S1, a, R1, s1, r1, e1, h1⟩
  refine ⟨B, ρ, S1, I1, hot, R1, h1.bind.mono ?_⟩
  rintro w H2 ⟨I2, S2, b, R2, s2, r2, e2, h2⟩
  cases a with
  | d u =>
    cases b with
    | d u' =>
      cases u with
      | int i =>
        cases u' with
        | int j =>
          have q := r1.dat
          cases q
          have q := r2.dat
          cases q
          have h3 : After X.K x B M σ ρ hot RepI H2 I2 (if -(2 ^ 30) ≤ i ∧ i ≤ 2 ^ 30 ∧ -(2 ^ 30) ≤ j ∧ j ≤ 2 ^ 30 ∧ j - i ≤ sizeLine then .ok (rangeD i (j - i).toNat) S2 else .stuck) R := h2
          split at h3
          · rename_i hj
            have h24 : sizeLine = 16777216 := sizeLine_eq
            exact ⟨i, j, rfl, ⟨by omega, by omega, by omega, by omega⟩, After.ok (S := S2) (RX := RepI) h3 R2 (walkI_range (lo := i) (by omega))⟩
          · exact h3.elim
        | _ => exact h2.elim
      | _ => cases u' <;> exact h2.elim
    | _ => cases u <;> exact h2.elim
  | _ => exact h2.elim

/-! ### targets -/
inductive Tgt where
  | n (i : Nat) | t (is : List Nat)
def Tgt.slots : Tgt → List Nat
  | .n i => [i]
  | .t is => is
def setAll : List Nat → List D → Rho → Rho
  | i :: is, d :: ds, ρ => setAll is ds (ρ.set i (some (.d d)))
  | _, _, ρ => ρ
def setAllV : List Nat → List V → L2.St → L2.St
  | i :: is, v :: vs, σ => setAllV is vs (σ.set i (some v))
  | _, _, σ => σ
def bindT : Tgt → D → Rho → Option Rho
  | .n i, d, ρ => some (ρ.set i (some (.d d)))
  | .t is, .tup ds, ρ => if ds.length = is.length then some (setAll is ds ρ) else none
  | _, _, _ => none
def gNames : List Nat → TGs
  | [] => gNil
  | i :: is => gCons (gName i) (gNames is)
def gT (K : Frag) : Tgt → TG
  | .n i => gName i
  | .t is => gTup K is.length (gNames is)
def GG (X : Cx) (tg : Expr) (t : Tgt) : Prop := PG X tg (gT X.K t)
theorem gg_name {i : Nat} {n : Str} {pos : Pos} (hN : X.N.Nodup) (hi : X.N[i]? = some n := by rfl) (hx : Loc X.env.scope n := by first | exact .inl rfl | exact .inr rfl) (hf : X.fn n = true ∨ X.env.scope.names.lookup n = some .local := by first | exact .inl rfl | exact .inr rfl) : GG X (.Name n pos) (.n i) := pg_name hN hi hx hf
def GGs (X : Cx) (es : List Expr) (is : List Nat) : Prop := PGs X es (gNames is)
theorem ggs_nil : GGs X [] [] := pgs_nil
theorem ggs_cons {i : Nat} {e : Expr} {es : List Expr} {is : List Nat} (h1 : GG X e (.n i)) (h2 : GGs X es is) (hs : (assignEach (e :: es) X.env).map (·.2) = assign e X.env :: (assignEach es X.env).map (·.2) := by rfl) : GGs X (e :: es) (i :: is) := pgs_cons h1 h2 hs
theorem gg_tup {es : List Expr} {k : Nat} {is : List Nat} {pos : Pos} (h : GGs X es is) (hc : X.calm = true := by rfl) (hn : (assignEach es X.env).length = is.length := by rfl) (hst : (assignEach es X.env).findIdx? (·.1) = none := by rfl) : GG X (.Tuple es k pos) (.t is) := pg_tup hc h hn hst
end
section
variable {K : Frag} {B : Bs} {M : List Nat} {σ : L2.St} {H : Hp} {ρ : Rho} {S : Sx} {I : Hp} {hot : List Addr}
theorem Rel.set {v : V} {a : A} {i : Nat} (r : Rel K B M σ H ρ S I hot) (h : RepA K hot I v a) (hi : i ∉ M) : Rel K B M (σ.set i (some v)) H (ρ.set i (some a)) S I hot := by
  refine ⟨r.wd, r.st, by rw [List.length_set, List.length_set]; exact r.len, fun j d e hj => ?_, fun j hj => ?_, fun j hj k hk n => ?_⟩
  · by_cases z : i = j
    · subst z
      by_cases hl : i < ρ.length
      · rw [List.getElem?_set_self hl] at e
        cases e
        exact ⟨v, List.getElem?_set_self (by rw [r.len]; exact hl), h⟩
      · rw [List.getElem?_eq_none (by rw [List.length_set]; omega)] at e; cases e
    · rw [List.getElem?_set_ne z] at e
      rw [List.getElem?_set_ne z]
      exact r.val j d e hj
  · have z : i ≠ j := fun q => hi (q ▸ hj)
    rw [List.getElem?_set_ne z, List.getElem?_set_ne z]
    exact r.own j hj
  · have z : i ≠ j := fun q => hi (q ▸ hj)
    have z' : i ≠ k := fun q => hi (q ▸ hk)
    rw [List.getElem?_set_ne z, List.getElem?_set_ne z']
    exact r.sep j hj k hk n
theorem gNames_ok : ∀ {is : List Nat} {vs : List V} {ds : List D} {σ : L2.St} {ρ : Rho} {Q : L2.St → Hp → Prop}, Rel K B M σ H ρ S I hot → Reps I vs ds → ds.length = is.length → (∀ i ∈ is, i ∉ M) → (Rel K B M (setAllV is vs σ) H (setAll is ds ρ) S I hot → Q (setAllV is vs σ) H) → gNames is vs σ H Q
  | [], _, _, σ, ρ, Q, R, .nil, _, _, q => ⟨rfl, q R⟩
  | [], _, _, σ, ρ, Q, R, .cons _ _, e, _, _ => by simp at e
  | i :: is, _, _, σ, ρ, Q, R, .nil, e, _, _ => by simp at e
  | i :: is, _, _, σ, ρ, Q, R, .cons (v := v) (vs := vs) h r, e, n, q => by
    refine ⟨v, vs, rfl, ?_⟩
    exact gNames_ok (R.set (.d h) (n i List.mem_cons_self)) r (by simpa using e) (fun j hj => n j (List.mem_cons_of_mem _ hj)) q
def Tgt.setV : Tgt → List V → L2.St → L2.St
  | .n i, v :: _, σ => σ.set i (some v)
  | .n _, [], σ => σ
  | .t is, vs, σ => setAllV is vs σ
theorem gT_ok {t : Tgt} {v : V} {d : D} {ρ' : Rho} {Q : L2.St → Hp → Prop} (R : Rel K B M σ H ρ S I hot) (h : Rep I v d) (e : bindT t d ρ = some ρ') (n : ∀ i ∈ t.slots, i ∉ M) (q : ∀ vs, Rel K B M (t.setV vs σ) H ρ' S I hot → Q (t.setV vs σ) H) : gT K t v σ H Q := by
  cases t with
  | n i =>
    cases e
    exact q [v] (R.set (.d h) (n i List.mem_cons_self))
  | t is =>
    cases h with
    | tup hp hz hr =>
      simp only [bindT] at e
      split at e
      · rename_i hl
        cases e
        exact ⟨_, _, rfl, SqT.of (R.wd.ext _ _ hp), by rw [hr.length, hl], gNames_ok R hr hl n fun z => q _ z⟩
      · cases e
    | _ => cases e
/-! ### the slots of a block's own names -/
def wipeR (ρ : Rho) : List Nat → Rho
  | [] => ρ
  | v :: vs => (wipeR ρ vs).set v none
theorem Rel.unset {i : Nat} (r : Rel K B M σ H ρ S I hot) (hi : i ∉ M) : Rel K B M (σ.set i none) H (ρ.set i none) S I hot := by
  refine ⟨r.wd, r.st, by rw [List.length_set, List.length_set]; exact r.len, fun j d e hj => ?_, fun j hj => ?_, fun j hj k hk n => ?_⟩
  · by_cases z : i = j
    · subst z
      by_cases hl : i < ρ.length
      · rw [List.getElem?_set_self hl] at e; cases e
      · rw [List.getElem?_eq_none (by rw [List.length_set]; omega)] at e; cases e
    · rw [List.getElem?_set_ne z] at e
      rw [List.getElem?_set_ne z]
      exact r.val j d e hj
  · have z : i ≠ j := fun q => hi (q ▸ hj)
    rw [List.getElem?_set_ne z, List.getElem?_set_ne z]
    exact r.own j hj
  · have z : i ≠ j := fun q => hi (q ▸ hj)
    have z' : i ≠ k := fun q => hi (q ▸ hk)
    rw [List.getElem?_set_ne z, List.getElem?_set_ne z']
    exact r.sep j hj k hk n
theorem Rel.wipe (r : Rel K B M σ H ρ S I hot) : ∀ {vs : List Nat}, (∀ i ∈ vs, i ∉ M) → Rel K B M (wipe σ vs) H (wipeR ρ vs) S I hot
  | [], _ => r
  | v :: vs, h => (Rel.wipe r fun i hi => h i (List.mem_cons_of_mem _ hi)).unset (h v List.mem_cons_self)
theorem wipe_get {σ : L2.St} : ∀ {vs : List Nat} {i : Nat}, (wipe σ vs)[i]? = if i ∈ vs then (if i < σ.length then some none else none) else σ[i]?
  | [], i => by simp [L2.wipe]
  | v :: vs, i => by
    unfold L2.wipe
    by_cases e : v = i
    · subst e
      rw [if_pos List.mem_cons_self]
      by_cases hl : v < σ.length
      · rw [if_pos hl, List.getElem?_set_self (by rw [wipe_length]; exact hl)]
      · rw [if_neg hl, List.getElem?_eq_none (by rw [List.length_set, wipe_length]; omega)]
    · rw [List.getElem?_set_ne e, wipe_get]
      have : (i ∈ v :: vs) ↔ i ∈ vs := by simp [Ne.symm e]
      simp only [this]
theorem wipe_ext {σ τ : L2.St} {vs : List Nat} (hl : σ.length = τ.length) (h : ∀ i, i ∉ vs → σ[i]? = τ[i]?) : wipe σ vs = wipe τ vs := by
  refine List.ext_getElem? fun i => ?_
  rw [wipe_get, wipe_get, hl]
  split
  · rfl
  · exact h i (by assumption)
theorem setAllV_get : ∀ {is : List Nat} {vs : List V} {σ : L2.St} {i : Nat}, i ∉ is → (setAllV is vs σ)[i]? = σ[i]?
  | [], _, _, _, _ => by simp [setAllV]
  | _ :: _, [], _, _, _ => by simp [setAllV]
  | j :: is, v :: vs, σ, i, h => by
    simp only [List.mem_cons, not_or] at h
    rw [setAllV, setAllV_get h.2, List.getElem?_set_ne (fun q => h.1 q.symm)]
theorem setAllV_len : ∀ {is : List Nat} {vs : List V} {σ : L2.St}, (setAllV is vs σ).length = σ.length
  | [], _, _ => by simp [setAllV]
  | _ :: _, [], _ => by simp [setAllV]
  | j :: is, v :: vs, σ => by rw [setAllV, setAllV_len, List.length_set]
theorem setV_get {t : Tgt} {vs : List V} {i : Nat} (h : i ∉ t.slots) : (t.setV vs σ)[i]? = σ[i]? := by
  cases t with
  | n j =>
    cases vs with
    | nil => rfl
    | cons v r =>
      have : i ≠ j := by simpa [Tgt.slots] using h
      show (σ.set j (some v))[i]? = _
      rw [List.getElem?_set_ne (Ne.symm this)]
  | t is => exact setAllV_get h
theorem setV_len {t : Tgt} {vs : List V} : (t.setV vs σ).length = σ.length := by
  cases t with
  | n j =>
    cases vs with
    | nil => rfl
    | cons v r => exact List.length_set
  | t is => exact setAllV_len
theorem wipe_setV {t : Tgt} {us : List V} {vs : List Nat} (h : ∀ i ∈ t.slots, i ∈ vs) : wipe (t.setV us (wipe σ vs)) vs = wipe σ vs :=
  wipe_ext (by rw [setV_len, wipe_length]) fun i hi => by
    rw [setV_get (fun z => hi (h i z)), wipe_get, if_neg hi]
end
end G
namespace G
open PySem L2
open PySem.W (Frag)
open Classical

section
variable {K : Frag} {x : Xc} {B : Bs} {M : List Nat} {σ : L2.St} {H : Hp} {ρ : Rho} {S : Sx} {I H1 I1 : Hp} {hot : List Addr}
/-- an object of ours, no part of I, is laid or changed -/
theorem Rel.put {p : Addr} {o : HO} (r : Rel K B M σ H ρ S I hot) (h1 : I p = none) (h2 : p ∉ hot) (h3 : B.H p = none) (h4 : ∀ i ∈ M, σ[i]? ≠ some (some (.ref p))) : Rel K B M σ (upd H p o) ρ S I hot := by
  have ne : ∀ a u, I a = some u → a ≠ p := fun a u e z => by rw [z, h1] at e; cases e
  refine ⟨⟨fun a u e => by rw [upd_ne (ne a u e)]; exact r.wd.ext a u e, r.wd.len, fun k a hv e1 e2 => (r.wd.at_ k a hv e1 e2).at fun o e => ?_, r.wd.off, r.wd.nd⟩, ⟨r.st.ext, fun a u e n => ?_, fun a u e => ?_, r.st.new⟩, r.len, r.val, fun i hi => ?_, r.sep⟩
  · rw [upd_ne (fun z : a = p => h2 (by rw [← z]; exact List.mem_of_getElem? e1))]; exact e
  · rw [upd_ne (fun z => by rw [z, h3] at e; cases e)]; exact r.st.keep a u e n
  · rw [upd_ne (fun z => by rw [z, h3] at e; cases e)]; exact r.st.stay a u e
  · obtain ⟨d, a, e1, e2, ⟨n1, n2, e3⟩, n3⟩ := r.own i hi
    have nz : a ≠ p := fun z => h4 i hi (z ▸ e2)
    refine ⟨d, a, e1, e2, ⟨n1, n2, ?_⟩, n3⟩
    rw [upd_ne nz]
    exact e3
/-- a fresh address is nobody's -/
theorem Rel.freshB {p : Addr} (r : Rel K B M σ H ρ S I hot) (h : H p = none) : I p = none ∧ p ∉ hot ∧ B.H p = none ∧ ∀ i ∈ M, σ[i]? ≠ some (some (.ref p)) := by
  obtain ⟨h1, h2⟩ := r.wd.none h
  refine ⟨h1, h2, r.st.back h, fun i hi e => ?_⟩
  obtain ⟨d, a, _, e2, o, _⟩ := r.own i hi
  rw [e] at e2
  cases e2
  obtain ⟨u, q⟩ := o.some
  rw [h] at q; cases q
def NAfter (K : Frag) (x : Xc) (B : Bs) (M : List Nat) (σ : L2.St) (ρ : Rho) (hot : List Addr) (H I : Hp) (r : Res D) (Q : VK) : Prop := match r with
  | .ok d S' => ∀ p H' I', Rel K B M σ H' ρ S' I' hot → Stp hot H I H' I' → OwnAt hot I' H' p d → H p = none → Q (.ref p) H'
  | .exc c S' => x.out K B σ ρ hot c S'
  | .stuck => False
theorem NAfter.from {r : Res D} {Q : VK} (h : NAfter K x B M σ ρ hot H I r Q) (s : Stp hot H I H1 I1) : NAfter K x B M σ ρ hot H1 I1 r Q := by
  cases r with
  | ok a S => exact fun p H' I' r1 s1 o hp => h p H' I' r1 (s.trans s1) o (s.back hp)
  | exc c S => exact h
  | stuck => exact h
theorem NAfter.bind {α β : Type} {RX : Hp → β → α → Prop} {r : Res α} {k : α → Sx → Res D} {Q : VK} (h : NAfter K x B M σ ρ hot H I (r.bind k) Q) :
    After K x B M σ ρ hot RX H I r fun v H1 => ∃ I1 S1 a, Rel K B M σ H1 ρ S1 I1 hot ∧ Stp hot H I H1 I1 ∧ RX I1 v a ∧ r = .ok a S1 ∧ NAfter K x B M σ ρ hot H1 I1 (k a S1) Q := by
  cases r with
  | ok a S => exact fun v H' I' r1 s1 q => ⟨I', S, a, r1, s1, q, rfl, NAfter.from (show NAfter K x B M σ ρ hot H I (k a S) Q from h) s1⟩
  | exc c S => exact h
  | stuck => exact h
end
abbrev Fd := Rho → Sx → Res D
def dA (f : Fd) : Fe := fun ρ S => (f ρ S).bind fun d S1 => .ok (.d d) S1
def nOf (K : Frag) (x : Xc) (M : List Nat) (f : Fd) : TE := fun σ H Q => ∃ B ρ S I hot, Rel K B M σ H ρ S I hot ∧ NAfter K x B M σ ρ hot H I (f ρ S) Q
/-- an expression that makes a new list or dict, owned by nobody yet -/
def GN (X : Cx) (x : Xc) (M : List Nat) (e : Expr) (f : Fd) : Prop := PE X e (nOf X.K x M f)
section
variable {X : Cx} {x : Xc} {M : List Nat}
theorem own_rep {K : Frag} {B : Bs} {σ : L2.St} {H : Hp} {ρ : Rho} {S : Sx} {I H' I' : Hp} {hot : List Addr} {p : Addr} {d : D} (R : Rel K B M σ H ρ S I hot) (R' : Rel K B M σ H' ρ S I' hot) (o : OwnAt hot I' H' p d) (hb : B.H p = none) (hn : ∀ i ∈ M, σ[i]? ≠ some (some (.ref p))) :
    ∃ J, Ext I' J ∧ (∀ a u, J a = some u → I' a = some u ∨ a = p) ∧ Rel K B M σ H' ρ S J hot ∧ Rep J (.ref p) d := by
  obtain ⟨n1, n2, q⟩ := o
  obtain ⟨u, hu⟩ := OwnAt.some ⟨n1, n2, q⟩
  have e : Ext I' (upd I' p u) := upd_ext n1
  refine ⟨upd I' p u, e, fun a w h => ?_, ⟨⟨fun a w h => ?_, R'.wd.len, R'.wd.at_, fun a ha => ?_, R'.wd.nd⟩, ⟨R'.st.ext.trans e, R'.st.keep, R'.st.stay, fun a w h => ?_⟩, R'.len, fun i d e1 hi => ?_, fun i hi => ?_, R'.sep⟩, ?_⟩
  · by_cases z : a = p
    · exact .inr z
    · rw [upd_ne z] at h; exact .inl h
  · by_cases z : a = p
    · subst z; rw [upd_same] at h; rw [hu]; exact h
    · rw [upd_ne z] at h; exact R'.wd.ext a w h
  · rw [upd_ne (fun z : a = p => n2 (by rw [← z]; exact ha))]; exact R'.wd.off a ha
  · by_cases z : a = p
    · subst z; exact .inr hb
    · rw [upd_ne z] at h; exact R'.st.new a w h
  · obtain ⟨v, h1, h2⟩ := R'.val i d e1 hi
    exact ⟨v, h1, h2.ext e⟩
  · obtain ⟨d', a, e1, e2, ⟨m1, m2, e3⟩, m3⟩ := R'.own i hi
    have nz : a ≠ p := fun z => hn i hi (z ▸ e2)
    refine ⟨d', a, e1, e2, ⟨by rw [upd_ne nz]; exact m1, m2, ?_⟩, m3⟩
    rcases e3 with ⟨vs, ds, w1, w2, w3, w4⟩ | ⟨ws, kvs, w1, w2, w3, w4⟩
    · exact .inl ⟨vs, ds, w1, w2, w3, w4.ext e⟩
    · exact .inr ⟨ws, kvs, w1, w2, w3, w4.ext e⟩
  · rcases q with ⟨vs, ds, rfl, w2, w3, w4⟩ | ⟨ws, kvs, rfl, w2, w3, w4⟩
    · rw [w2] at hu; cases hu
      exact .lst upd_same w3 (w4.ext e)
    · rw [w2] at hu; cases hu
      exact .dct (.inl upd_same) w3 (w4.ext e)
/-- what is new may be made immutable at once -/
theorem n_of_t {K : Frag} {f : Fd} {σ : L2.St} {H : Hp} {Q : VK} (h : tOf K x M (dA f) σ H Q) : nOf K x M f σ H Q := by
  obtain ⟨B, ρ, S, I, hot, R, h⟩ := h
  refine ⟨B, ρ, S, I, hot, R, ?_⟩
  unfold dA at h
  cases ef : f ρ S with
  | stuck => rw [ef] at h; exact h
  | exc c S' => rw [ef] at h; exact h
  | ok d S' =>
    rw [ef] at h
    intro p H' I' R' s' o hp
    obtain ⟨_, _, hb, hn⟩ := R.freshB hp
    have R1 : Rel K B M σ H' ρ S' I' hot := R'
    obtain ⟨J, e1, nw, RJ, rp⟩ := own_rep (K := K) (S := S') (H := H') (I := I') R1 R1 o hb hn
    refine h (.ref p) H' J RJ ⟨s'.ext.trans e1, s'.keep, s'.stay, fun a u q => ?_⟩ (.d rp)
    rcases nw a u q with q | q
    · exact s'.new a u q
    · subst q; exact .inr hp
theorem GN.ge {e : Expr} {f : Fd} (h : GN X x M e f) : GE X x M e (dA f) := PE.weak h fun _ _ _ h => n_of_t h
end
end G
namespace G
open PySem L2
open PySem.W (Frag)
open Classical

/-! ### comprehensions -/
def xc0 (M : List Nat) : Xc := ⟨fun _ _ _ _ => False, M⟩
def noX {α : Type} (r : Res α) : Res α := match r with
  | .exc _ _ => .stuck
  | r => r
@[simp] theorem noX_ok {α : Type} (a : α) (S : Sx) : noX (.ok a S) = .ok a S := rfl
@[simp] theorem noX_exc {α : Type} (c : Str) (S : Sx) : noX (.exc c S : Res α) = .stuck := rfl
@[simp] theorem noX_stuck {α : Type} : noX (.stuck : Res α) = .stuck := rfl
def toD (a : A) (S : Sx) : Res D := match a with
  | .d u => .ok u S
  | _ => .stuck
@[simp] theorem toD_d (u : D) (S : Sx) : toD (.d u) S = .ok u S := rfl
/-- one turn: none, or what it gives -/
def turnF (t : Tgt) (W : List Nat) (ft : Ft) (fe : Fe) (d : D) (ρ : Rho) (S : Sx) : Res (Option D) := match bindT t d (wipeR ρ W) with
  | none => .stuck
  | some ρ' => (noX (ft ρ' S)).bind fun b S1 => if b = true then (noX (fe ρ' S1)).bind fun a S2 => (toD a S2).bind fun y S3 => .ok (some y) S3 else .ok none S1
def compF (t : Tgt) (W : List Nat) (ft : Ft) (fe : Fe) (ρ : Rho) : List D → Sx → Res (List D)
  | [], S => .ok [] S
  | d :: ds, S => (turnF t W ft fe d ρ S).bind fun o S1 => (compF t W ft fe ρ ds S1).bind fun ys S2 => .ok (o.toList ++ ys) S2
theorem compF_cons (t : Tgt) (W : List Nat) (ft : Ft) (fe : Fe) (ρ : Rho) (d : D) (ds : List D) (S : Sx) : compF t W ft fe ρ (d :: ds) S = (turnF t W ft fe d ρ S).bind fun o S1 => (compF t W ft fe ρ ds S1).bind fun ys S2 => .ok (o.toList ++ ys) S2 := rfl
def eComp (fi : Fi) (t : Tgt) (W : List Nat) (ft : Ft) (fe : Fe) : Fd := fun ρ S => (fi ρ S).bind fun ds S1 => (compF t W ft fe ρ ds S1).bind fun ys S2 => .ok (.lst ys) S2
def tYesF : Ft := fun _ S => .ok true S
def GTs (X : Cx) (x : Xc) (M : List Nat) (ifs : List Expr) (f : Ft) : Prop := PTs X ifs (ttOf X.K x M f)
section
variable {X : Cx} {x : Xc} {M : List Nat}
theorem gts_nil : GTs X x M [] tYesF := by
  refine ⟨fun pins s σ H Q I h => ?_⟩
  obtain ⟨B, ρ, S, J, hot, R, h⟩ := h
  exact pts_nil.run pins s σ H Q I (After.ok (S := S) h R rfl)
theorem gts_one {c : Expr} {f : Ft} (h : GT X x M c f) : GTs X x M [c] f := pts_one h
theorem res_bind {α β : Type} {r : Res α} {k : α → Sx → Res β} {b : β} {S : Sx} (h : r.bind k = .ok b S) : ∃ a S1, r = .ok a S1 ∧ k a S1 = .ok b S := by
  cases r with
  | ok a S1 => exact ⟨a, S1, rfl, h⟩
  | exc c S1 => cases h
  | stuck => cases h
theorem noX_eq {α : Type} {r : Res α} {a : α} {S : Sx} (h : noX r = .ok a S) : r = .ok a S := by
  cases r with
  | ok _ _ => exact h
  | exc _ _ => cases h
  | stuck => cases h
theorem bind_assoc {α β γ : Type} (r : Res α) (f : α → Sx → Res β) (g : β → Sx → Res γ) : (r.bind f).bind g = r.bind fun a S => (f a S).bind g := by cases r <;> rfl
/-- a bind whose result is no error comes from one -/
theorem NAfter.dest {α : Type} {K : Frag} {y : Xc} {B : Bs} {σ : L2.St} {ρ : Rho} {hot : List Addr} {H I : Hp} {r : Res α} {k : α → Sx → Res D} {Q : VK} (nx : ∀ c S, r ≠ .exc c S) (h : NAfter K y B M σ ρ hot H I (r.bind k) Q) : ∃ a S1, r = .ok a S1 ∧ NAfter K y B M σ ρ hot H I (k a S1) Q := by
  cases r with
  | ok a S1 => exact ⟨a, S1, rfl, h⟩
  | exc c S => exact absurd rfl (nx c S)
  | stuck => exact h.elim
theorem turn_nx {t : Tgt} {W : List Nat} {ft : Ft} {fe : Fe} {d : D} {ρ : Rho} {S : Sx} (c : Str) (S1 : Sx) : turnF t W ft fe d ρ S ≠ .exc c S1 := by
  unfold turnF
  split
  · simp
  · rename_i ρ' _
    cases e : ft ρ' S with
    | stuck => simp
    | exc _ _ => simp
    | ok b S2 =>
      cases b with
      | false => simp
      | true =>
        simp only [noX_ok, bind_ok, if_true]
        cases e2 : fe ρ' S2 with
        | stuck => simp
        | exc _ _ => simp
        | ok a S3 =>
          cases a <;> simp [toD]
theorem comp_nx {t : Tgt} {W : List Nat} {ft : Ft} {fe : Fe} {ρ : Rho} : ∀ {ds : List D} {S : Sx} (c : Str) (S1 : Sx), compF t W ft fe ρ ds S ≠ .exc c S1
  | [], S, c, S1 => by simp [compF]
  | d :: ds, S, c, S1 => by
    unfold compF
    cases e : turnF t W ft fe d ρ S with
    | stuck => simp
    | exc c' S' => exact absurd e (turn_nx c' S')
    | ok o S2 =>
      rw [bind_ok]
      cases e2 : compF t W ft fe ρ ds S2 with
      | stuck => simp
      | exc c' S' => exact absurd e2 (comp_nx c' S')
      | ok _ _ => simp
theorem lc_main {K : Frag} {W : List Nat} {t : Tgt} {ft : Ft} {fe : Fe} {B : Bs} {ρ : Rho} {hot : List Addr} {I1 : Hp} {S1 : Sx} {J : It} {ds : List D} {σ : L2.St} {H H1 : Hp} {Q : VK} (hm : ∀ i ∈ W, i ∉ M) (hts : ∀ i ∈ t.slots, i ∈ W) (R1 : Rel K B M σ H1 ρ S1 I1 hot) (hr : RepI I1 J ds)
    (h1 : NAfter K x B M σ ρ hot H1 I1 ((compF t W ft fe ρ ds S1).bind fun ys S2 => .ok (.lst ys) S2) Q) :
    tLc (fun _ _ R => R J H1) (gT K t) (ttOf K (xc0 M) M ft) (tOf K (xc0 M) M fe) W σ H Q := by
  obtain ⟨hz, w⟩ := hr
  intro Dl hD
  obtain ⟨f1, f2, f3, f4⟩ := R1.freshB hD
  refine lc_it w (fun i H' => ∃ I' S' vs ys, Rel K B M σ H' ρ S' I' hot ∧ Stp hot H1 I1 H' I' ∧ H' Dl = some (.lst vs) ∧ Reps I' vs ys ∧ I' Dl = none ∧ vs.length ≤ i ∧
    NAfter K x B M σ ρ hot H1 I1 ((compF t W ft fe ρ (ds.drop i) S').bind fun zs S2 => .ok (.lst (ys ++ zs)) S2) Q) ?_ ?_ ?_ ?_
  · refine ⟨I1, S1, [], [], R1.put f1 f2 f3 f4, stp_add hD, upd_same, .nil, f1, Nat.le_refl _, ?_⟩
    rw [List.drop_zero]
    exact h1
  · rintro i H' _ ⟨I', S', vs, ys, R', s', _⟩
    exact s'.ext.trans R'.wd.ext
  · rintro i v H' H'' hi ⟨I', S', vs, ys, R', s', hv, ry, nD, hl, hq⟩ ⟨rfl, d, hd, rd⟩
    have rd' : Rep I' v d := rd.ext s'.ext
    rw [List.drop_eq_getElem_cons hi] at hq
    have ed : ds[i] = d := by rw [List.getElem?_eq_getElem hi] at hd; exact Option.some.inj hd
    rw [ed] at hq
    have eq1 : (compF t W ft fe ρ (d :: ds.drop (i + 1)) S').bind (fun zs S2 => .ok (D.lst (ys ++ zs)) S2) = (turnF t W ft fe d ρ S').bind fun o S1 => (compF t W ft fe ρ (ds.drop (i + 1)) S1).bind fun zs S2 => .ok (D.lst ((ys ++ o.toList) ++ zs)) S2 := by
      rw [compF_cons, bind_assoc]
      refine congrArg (Res.bind _) (funext fun o => funext fun S3 => ?_)
      rw [bind_assoc]
      refine congrArg (Res.bind _) (funext fun zs => funext fun S4 => ?_)
      simp
    rw [eq1] at hq
    obtain ⟨o, S2, et, hq2⟩ := NAfter.dest turn_nx hq
    unfold turnF at et
    cases eb : bindT t d (wipeR ρ W) with
    | none => rw [eb] at et; cases et
    | some ρ' =>
      rw [eb] at et
      dsimp only at et
      obtain ⟨b, S3, e1, e2⟩ := res_bind et
      have e1 := noX_eq e1
      have hm' : ∀ i ∈ t.slots, i ∉ M := fun i hi => hm i (hts i hi)
      refine gT_ok (R'.wipe hm) rd' eb hm' fun us Rw => ⟨wipe_setV hts, ?_⟩
      refine ⟨B, ρ', S', I', hot, Rw, ?_⟩
      rw [e1]
      intro c H3 I3 R3 s3 ec
      cases (show c = b from ec)
      have nh : Dl ∉ hot := f2
      have R3' : Rel K B M σ H3 ρ S3 I3 hot := R'.step s3 R3.wd
      have nD3 : I3 Dl = none := by
        cases q : I3 Dl with
        | none => rfl
        | some u =>
          rcases s3.new Dl u q with z | z
          · rw [nD] at z; cases z
          · rw [hv] at z; cases z
      have hv3 : H3 Dl = some (.lst vs) := s3.keep Dl _ hv nh
      cases b with
      | false =>
        have e2' : (Res.ok none S3 : Res (Option D)) = .ok o S2 := e2
        cases e2'
        rw [if_neg (by decide)]
        refine ⟨I3, _, vs, ys, R3', s'.trans s3, hv3, ry.ext s3.ext, nD3, by omega, ?_⟩
        simpa using hq2
      | true =>
        rw [if_pos rfl]
        have e2' : ((noX (fe ρ' S3)).bind fun a S2 => (toD a S2).bind fun y S3 => .ok (some y) S3) = .ok o S2 := e2
        obtain ⟨a, S4, e3, e4⟩ := res_bind e2'
        have e3 := noX_eq e3
        refine ⟨B, ρ', S3, I3, hot, R3, ?_⟩
        rw [e3]
        intro y H4 I4 R4 s4 ra
        cases ra with
        | @d v4 u r4 =>
          have e4' : (Res.ok (some u) S4 : Res (Option D)) = .ok o S2 := e4
          cases e4'
          have R4' : Rel K B M σ H4 ρ _ I4 hot := R3'.step s4 R4.wd
          have nD4 : I4 Dl = none := by
            cases q : I4 Dl with
            | none => rfl
            | some u =>
              rcases s4.new Dl u q with z | z
              · rw [nD3] at z; cases z
              · rw [hv3] at z; cases z
          have hv4 : H4 Dl = some (.lst vs) := s4.keep Dl _ hv3 nh
          have hz4 : vs.length < sizeLine := by
            have : ds.length ≤ sizeLine := hz
            omega
          refine ⟨vs, hv4, hz4, I4, _, vs ++ [y], ys ++ [u], R4'.put nD4 nh f3 f4, ?_, upd_same, (((ry.ext s3.ext).ext s4.ext).append (Reps.one r4)), nD4, by rw [List.length_append]; simp; omega, ?_⟩
          · have s5 := (s'.trans s3).trans s4
            refine ⟨s5.ext, fun a o e n => ?_, fun a o e => ?_, s5.new⟩
            · rw [upd_ne (ne_of_none e hD)]; exact s5.keep a o e n
            · rw [upd_ne (ne_of_none e hD)]; exact s5.stay a o e
          · simpa using hq2
        | _ => cases e4
  · rintro H' ⟨I', S', vs, ys, R', s', hv, ry, nD, hl, hq⟩
    rw [List.drop_length] at hq
    have hq' : NAfter K x B M σ ρ hot H1 I1 (.ok (.lst ys) S') Q := by
      simpa [compF] using hq
    exact hq' Dl H' I' R' s' ⟨nD, f2, .inl ⟨vs, ys, rfl, hv, Nat.le_trans hl hz, ry⟩⟩ hD
theorem lc_of_n {K : Frag} {W : List Nat} {fi : Fi} {t : Tgt} {ft : Ft} {fe : Fe} {σ : L2.St} {H : Hp} {Q : VK} (hm : ∀ i ∈ W, i ∉ M) (hts : ∀ i ∈ t.slots, i ∈ W) (h : nOf K x M (eComp fi t W ft fe) σ H Q) :
    tLc (iOf K x M fi) (gT K t) (ttOf K (xc0 M) M ft) (tOf K (xc0 M) M fe) W σ H Q := by
  obtain ⟨B, ρ, S, I, hot, R, h⟩ := h
  refine ⟨B, ρ, S, I, hot, R, (NAfter.bind h).mono ?_⟩
  rintro J H1 ⟨I1, S1, ds, R1, s1, hr, _, h1⟩
  exact lc_main (H := H) hm hts R1 hr h1
theorem gn_comp {elt tg iter : Expr} {ifs : List Expr} {scope : Scope} {own : List (Str × Nat)} {pos : Pos} {fi : Fi} {t : Tgt} {ft : Ft} {fe : Fe} (hN : X.N.Nodup) (hi : GI X x M tg iter fi) (ok : BlkOk X.N X.env.scope scope own)
    (hg : ∀ (s : Shared) (H : Hp) (C : Addr) (cl : List (Str × Addr)) (fp : List Addr), GG (X.blk s H scope (compEnvC scope cl C X.env) fp) tg t)
    (ht : ∀ (s : Shared) (H : Hp) (C : Addr) (cl : List (Str × Addr)) (fp : List Addr), GTs (X.blk s H scope (compEnvC scope cl C X.env) fp) (xc0 M) M ifs ft)
    (he : ∀ (s : Shared) (H : Hp) (C : Addr) (cl : List (Str × Addr)) (fp : List Addr), GE (X.blk s H scope (compEnvC scope cl C X.env) fp) (xc0 M) M elt fe)
    (hm : ∀ i ∈ own.map (·.2), i ∉ M := by decide) (hts : ∀ i ∈ t.slots, i ∈ own.map (·.2) := by decide) (hc : X.calm = true := by rfl) (hs : ∀ y, foldedSetIterable iter X.env y = pure y := by intro _; rfl) :
    GN X x M (.ListComp elt [⟨tg, iter, ifs, 0⟩] scope pos) (eComp fi t (own.map (·.2)) ft fe) :=
  PE.weak (pe_lc (g := gT X.K t) (tt := ttOf X.K (xc0 M) M ft) (te := tOf X.K (xc0 M) M fe) hc hN hi ok (fun s H C cl fp => hg s H C cl fp) (fun s H C cl fp => ht s H C cl fp) (fun s H C cl fp => he s H C cl fp) hs) fun _ _ _ h => lc_of_n hm hts h
theorem ge_comp {elt tg iter : Expr} {ifs : List Expr} {scope : Scope} {own : List (Str × Nat)} {pos : Pos} {fi : Fi} {t : Tgt} {ft : Ft} {fe : Fe} (hN : X.N.Nodup) (hi : GI X x M tg iter fi) (ok : BlkOk X.N X.env.scope scope own)
    (hg : ∀ (s : Shared) (H : Hp) (C : Addr) (cl : List (Str × Addr)) (fp : List Addr), GG (X.blk s H scope (compEnvC scope cl C X.env) fp) tg t)
    (ht : ∀ (s : Shared) (H : Hp) (C : Addr) (cl : List (Str × Addr)) (fp : List Addr), GTs (X.blk s H scope (compEnvC scope cl C X.env) fp) (xc0 M) M ifs ft)
    (he : ∀ (s : Shared) (H : Hp) (C : Addr) (cl : List (Str × Addr)) (fp : List Addr), GE (X.blk s H scope (compEnvC scope cl C X.env) fp) (xc0 M) M elt fe)
    (hm : ∀ i ∈ own.map (·.2), i ∉ M := by decide) (hts : ∀ i ∈ t.slots, i ∈ own.map (·.2) := by decide) (hc : X.calm = true := by rfl) (hs : ∀ y, foldedSetIterable iter X.env y = pure y := by intro _; rfl) :
    GE X x M (.ListComp elt [⟨tg, iter, ifs, 0⟩] scope pos) (dA (eComp fi t (own.map (·.2)) ft fe)) := GN.ge (gn_comp hN hi ok hg ht he hm hts hc hs)
end
end G
namespace G
open PySem L2
open PySem.W (Frag)
open Classical

/-! ### calls of the program's own defs -/
abbrev Fn := List A → Sx → Res D
def spOf (K : Frag) (F : Fn) : Sp := fun vs H Q E => ∃ as S I hot, Wld K H S I hot ∧ RepsA K hot I vs as ∧ match F as S with
  | .ok d S' => ∀ v H' I', Stp hot H I H' I' → Wld K H' S' I' hot → Rep I' v d → Q v H'
  | .exc c S' => ∀ H' I', Stp hot H I H' I' → Wld K H' S' I' hot → E (.ref (He.ga K c)) none H'
  | .stuck => False
def eOwn (F : Fn) (fa : Fa) : Fe := fun ρ S => (fa ρ S).bind fun as S1 => (F as S1).bind fun d S2 => .ok (.d d) S2
/-- the def named x is at hand, by at most level k, and does F -/
structure Callee (P : Program) (w : World) (K : Frag) (mg : Str → Option Value) (base : Heap) (k : Nat) (x : Str) (F : Fn) : Prop where
  ex : ∃ f fd ps, FnOk P w K mg base (L2.CX P w) k f fd ps (spOf K F) ∧ mg x = some (.ref f) ∧ PySem.W.keepIn K (.ref f) = true ∧ Binds K fd ps []
/-- the context: room for k calls, what is raised is taken -/
structure Cq (X : Cx) (x : Xc) (k : Nat) : Prop where
  room : Room k X.A
  take : Takes X x.W
theorem Cq.blk {X : Cx} {x : Xc} {k : Nat} (c : Cq X x k) (M : List Nat) (s : Shared) (H : Hp) (scope : Scope) (cenv : Env) (fp : List Addr) : Cq (X.blk s H scope cenv fp) (xc0 M) k := ⟨c.room, takes0⟩
section
variable {X : Cx} {x : Xc} {M : List Nat} {k : Nat}
theorem Cq.hu (c : Cq X x k) : X.A.units + 1 < cLine := hu_of c.room
theorem ge_own {F : Fn} {fa : Fa} {n : Str} {e : Expr} {es : List Expr} {p pos : Pos} (c : Cq X x k) (C : Callee X.prog X.w X.K X.mg X.base k n F) (ha : GA X x M (e :: es) fa) (hM : x.M = [] ∨ x.M = M := by first | exact .inl rfl | exact .inr rfl) (hgl : Gl X n := by rfl)
    (hdb : (n == ("__debug__" : Str)) = false := by decide) (he : starEach (e :: es) X.env = (false, eval e X.env) :: starEach es X.env := by rfl) (hpl : (backTo pos (starEach es X.env)).any (·.1) = false := by rfl) :
    GE X x M (.Call (.Name n p) (e :: es) [] pos) (eOwn F fa) := by
  obtain ⟨f, fd, ps, G, hm, hk, hb⟩ := C.ex
  refine PE.weak (pe_callS (E := WE x.W) G c.room hgl hm hk hb (fun σ => passAt c.take σ) ha hdb he hpl) ?_
  rintro σ H Q ⟨B, ρ, S, I, hot, R, h⟩
  refine ⟨B, ρ, S, I, hot, R, h.bind.mono ?_⟩
  rintro vs H1 ⟨I1, S1, as, R1, s1, r1, _, h1⟩
  refine ⟨as, S1, I1, hot, R1.wd, r1, ?_⟩
  cases ef : F as S1 with
  | stuck => rw [ef] at h1; exact h1
  | ok d S2 =>
    rw [ef] at h1
    exact fun v H' I' st w rv => h1 v H' I' (R1.step st w) st (.d rv)
  | exc cl S2 =>
    rw [ef] at h1
    intro H' I' st w
    have R2 := R1.step st w
    rcases hM with hM | hM
    · obtain ⟨J, _, R3⟩ := R2.freeze (M' := x.M) (by rw [hM]; intro i hi; cases hi)
      exact h1 σ H' J rfl R3
    · rw [← hM] at R2
      exact h1 σ H' I' rfl R2

/-! ### statements -/
def OutOk (K : Frag) (x : Xc) (B : Bs) (M' : List Nat) (hot : List Addr) (I : Hp) (D : Ends) (o : Out) : Prop := match o with
  | .nx ρ' S' => ∀ σ' H' I', Ext I I' → Rel K B M' σ' H' ρ' S' I' hot → D.nx σ' H'
  | .rt d S' => ∀ v H' I', Stp hot B.H B.I H' I' → Wld K H' S' I' hot → Rep I' v d → D.rt v H'
  | .xc c ρ' S' => ∀ σ' H' I', Rel K B x.M σ' H' ρ' S' I' hot → x.W (.ref (He.ga K c)) none σ' H'
  | .stuck => False
def sOf (K : Frag) (x : Xc) (M M' : List Nat) (f : Fs) : TS := fun D σ H => ∃ B ρ S I hot, Rel K B M σ H ρ S I hot ∧ OutOk K x B M' hot I D (f ρ S)
theorem OutOk.from {K : Frag} {x : Xc} {B : Bs} {M' : List Nat} {hot : List Addr} {I J : Hp} {D : Ends} {o : Out} (h : OutOk K x B M' hot I D o) (e : Ext I J) : OutOk K x B M' hot J D o := by
  cases o with
  | nx ρ' S' => exact fun σ' H' I' e' R' => h σ' H' I' (e.trans e') R'
  | rt d S' => exact h
  | xc c ρ' S' => exact h
  | stuck => exact h
def GS (X : Cx) (x : Xc) (M M' : List Nat) (st : Stmt) (f : Fs) : Prop := PS X st (sOf X.K x M M' f)
def GSs (X : Cx) (x : Xc) (M M' : List Nat) (st : List Stmt) (f : Fs) : Prop := PSs X st (sOf X.K x M M' f)
variable {M' M1 M2 : List Nat}
def sNil : Fs := fun ρ S => .nx ρ S
def sSeq (f g : Fs) : Fs := fun ρ S => match f ρ S with
  | .nx ρ' S' => g ρ' S'
  | o => o
theorem gss_nil : GSs X x M M [] sNil := by
  refine PSs.weak pss_nil ?_
  rintro D σ H ⟨B, ρ, S, I, hot, R, h⟩
  exact h σ H I (Ext.refl _) R
theorem gss_cons {st : Stmt} {rest : List Stmt} {f g : Fs} (h1 : GS X x M M1 st f) (h2 : GSs X x M1 M2 rest g) : GSs X x M M2 (st :: rest) (sSeq f g) := by
  refine PSs.weak (pss_cons h1 h2) ?_
  rintro D σ H ⟨B, ρ, S, I, hot, R, h⟩
  refine ⟨B, ρ, S, I, hot, R, ?_⟩
  unfold sSeq at h
  cases e : f ρ S with
  | nx ρ' S' => rw [e] at h; exact fun σ' H' I' e' R' => ⟨B, ρ', S', I', hot, R', OutOk.from h e'⟩
  | rt d S' => rw [e] at h; exact h
  | xc c ρ' S' => rw [e] at h; exact h
  | stuck => rw [e] at h; exact h
theorem gss_one {st : Stmt} {f : Fs} (h1 : GS X x M M1 st f) : GSs X x M M1 [st] f := pss_one h1
/-- from here on some owned ones are immutable -/
theorem gss_frz {sts : List Stmt} {f : Fs} (Mf : List Nat) (h : GSs X x Mf M2 sts f) (hs : ∀ i ∈ Mf, i ∈ M := by decide) : GSs X x M M2 sts f := by
  refine PSs.weak h ?_
  rintro D σ H ⟨B, ρ, S, I, hot, R, h⟩
  obtain ⟨J, e, R'⟩ := R.freeze hs
  exact ⟨B, ρ, S, J, hot, R', OutOk.from h e⟩
def onE (r : Res A) (ρ : Rho) (k : A → Sx → Out) : Out := match r with
  | .ok a S => k a S
  | .exc c S => .xc c ρ S
  | .stuck => .stuck
@[simp] theorem onE_ok (a : A) (S : Sx) (ρ : Rho) (k : A → Sx → Out) : onE (.ok a S) ρ k = k a S := rfl
@[simp] theorem onE_exc (c : Str) (S : Sx) (ρ : Rho) (k : A → Sx → Out) : onE (.exc c S) ρ k = .xc c ρ S := rfl
@[simp] theorem onE_stuck (ρ : Rho) (k : A → Sx → Out) : onE .stuck ρ k = .stuck := rfl
theorem onE_after {K : Frag} {B : Bs} {σ : L2.St} {H : Hp} {ρ : Rho} {I : Hp} {hot : List Addr} {r : Res A} {k : A → Sx → Out} {D : Ends} {Q : VK} (h : OutOk K x B M' hot I D (onE r ρ k))
    (q : ∀ a S1 v H' I', Rel K B M σ H' ρ S1 I' hot → Stp hot H I H' I' → RepA K hot I' v a → OutOk K x B M' hot I D (k a S1) → Q v H') : After K x B M σ ρ hot (RepA K hot) H I r Q := by
  cases r with
  | ok a S1 => exact fun v H' I' R' s' ra => q a S1 v H' I' R' s' ra h
  | exc c S1 => exact fun σ' H' I' e R' => by subst e; exact h _ H' I' R'
  | stuck => exact h.elim
/-- name = e -/
def sAsg (i : Nat) (f : Fe) : Fs := fun ρ S => onE (f ρ S) ρ fun a S1 => .nx (ρ.set i (some a)) S1
theorem gs_asg {i : Nat} {n : Str} {e : Expr} {f : Fe} {pos pos' : Pos} (hN : X.N.Nodup) (he : GE X x M e f) (hi : X.N[i]? = some n := by rfl) (hm : i ∉ M := by decide) (hx : Loc X.env.scope n := by first | exact .inl rfl | exact .inr rfl) (hs : swapsWith e (some (.Name n pos')) pos.line X.env = pure false := by rfl)
    (hf : X.fn n = true ∨ X.env.scope.names.lookup n = some .local := by first | exact .inl rfl | exact .inr rfl) : GS X x M M (.Assign [.Name n pos'] e pos) (sAsg i f) := by
  refine PS.weak (ps_set hN hi hx he hs hf) ?_
  rintro D σ H ⟨B, ρ, S, I, hot, R, h⟩
  exact ⟨B, ρ, S, I, hot, R, onE_after h fun a S1 v H' I' R' s' ra h1 => h1 _ H' I' s'.ext (R'.set ra hm)⟩
/-- name = [.. for ..] on one line -/
theorem gs_asgLc {i : Nat} {n : Str} {elt tg iter : Expr} {ifs : List Expr} {scope : Scope} {own : List (Str × Nat)} {pos spos py : Pos} {fi : Fi} {t : Tgt} {ft : Ft} {fe : Fe} (hN : X.N.Nodup) (hi : GI X x M tg iter fi) (ok : BlkOk X.N X.env.scope scope own)
    (hg : ∀ (s : Shared) (H : Hp) (C : Addr) (cl : List (Str × Addr)) (fp : List Addr), GG (X.blk s H scope (compEnvC scope cl C X.env) fp) tg t)
    (ht : ∀ (s : Shared) (H : Hp) (C : Addr) (cl : List (Str × Addr)) (fp : List Addr), GTs (X.blk s H scope (compEnvC scope cl C X.env) fp) (xc0 M) M ifs ft)
    (he : ∀ (s : Shared) (H : Hp) (C : Addr) (cl : List (Str × Addr)) (fp : List Addr), GE (X.blk s H scope (compEnvC scope cl C X.env) fp) (xc0 M) M elt fe)
    (hy : X.N[i]? = some n := by rfl) (hyl : X.env.scope.names.lookup n = some .local := by rfl) (hsw : swapsWith (.ListComp elt [⟨tg, iter, ifs, 0⟩] scope pos) (some (.Name n py)) spos.line X.env = pure true := by exact sw_true rfl rfl rfl (by decide +kernel))
    (hn : i ∉ M := by decide) (hm : ∀ i ∈ own.map (·.2), i ∉ M := by decide) (hts : ∀ i ∈ t.slots, i ∈ own.map (·.2) := by decide) (hc : X.calm = true := by rfl) (hs : ∀ y, foldedSetIterable iter X.env y = pure y := by intro _; rfl) :
    GS X x M M (.Assign [.Name n py] (.ListComp elt [⟨tg, iter, ifs, 0⟩] scope pos) spos) (sAsg i (dA (eComp fi t (own.map (·.2)) ft fe))) := by
  refine PS.weak (ps_setLc (g := gT X.K t) (tt := ttOf X.K (xc0 M) M ft) (te := tOf X.K (xc0 M) M fe) hc hN hy hyl hsw hi ok (fun s H C cl fp => hg s H C cl fp) (fun s H C cl fp => ht s H C cl fp) (fun s H C cl fp => he s H C cl fp) hs) ?_
  rintro D σ H ⟨B, ρ, S, I, hot, R, h⟩
  exact lc_of_n hm hts (n_of_t ⟨B, ρ, S, I, hot, R, onE_after h fun a S1 v H' I' R' s' ra h1 => h1 _ H' I' s'.ext (R'.set ra hn)⟩)
/-- name = (a new list or dict), which the name owns then -/
def sAsgN (i : Nat) (f : Fd) : Fs := fun ρ S => onE (dA f ρ S) ρ fun a S1 => .nx (ρ.set i (some a)) S1
theorem Rel.setOwn {K : Frag} {B : Bs} {σ : L2.St} {H : Hp} {ρ : Rho} {S : Sx} {I : Hp} {hot : List Addr} {p : Addr} {d : D} {i : Nat} (r : Rel K B M σ H ρ S I hot) (o : OwnAt hot I H p d) (hb : B.H p = none) (hn : ∀ j ∈ M, σ[j]? ≠ some (some (.ref p))) (hi : i ∉ M) (hl : i < ρ.length) :
    Rel K B (i :: M) (σ.set i (some (.ref p))) H (ρ.set i (some (.d d))) S I hot := by
  have hl' : i < σ.length := by rw [r.len]; exact hl
  have ne : ∀ j ∈ M, i ≠ j := fun j hj z => hi (z ▸ hj)
  refine ⟨r.wd, r.st, by rw [List.length_set, List.length_set]; exact r.len, fun j a e hj => ?_, fun j hj => ?_, fun j hj k hk n => ?_⟩
  · simp only [List.mem_cons, not_or] at hj
    rw [List.getElem?_set_ne (Ne.symm hj.1)] at e
    rw [List.getElem?_set_ne (Ne.symm hj.1)]
    exact r.val j a e hj.2
  · rcases List.mem_cons.mp hj with rfl | hj
    · exact ⟨d, p, List.getElem?_set_self hl, List.getElem?_set_self hl', o, hb⟩
    · rw [List.getElem?_set_ne (ne j hj), List.getElem?_set_ne (ne j hj)]
      exact r.own j hj
  · rcases List.mem_cons.mp hj with ej | hj
    · rcases List.mem_cons.mp hk with ek | hk
      · exact absurd (ej.trans ek.symm) n
      · rw [ej, List.getElem?_set_self hl', List.getElem?_set_ne (ne k hk)]
        exact fun z => hn k hk z.symm
    · rcases List.mem_cons.mp hk with ek | hk
      · rw [ek, List.getElem?_set_self hl', List.getElem?_set_ne (ne j hj)]
        exact hn j hj
      · rw [List.getElem?_set_ne (ne j hj), List.getElem?_set_ne (ne k hk)]
        exact r.sep j hj k hk n
theorem nA_after {K : Frag} {B : Bs} {σ : L2.St} {H : Hp} {ρ : Rho} {I : Hp} {hot : List Addr} {f : Fd} {S : Sx} {k : A → Sx → Out} {D : Ends} {Q : VK} (h : OutOk K x B M' hot I D (onE (dA f ρ S) ρ k))
    (q : ∀ d S1 p H' I', Rel K B M σ H' ρ S1 I' hot → Stp hot H I H' I' → OwnAt hot I' H' p d → H p = none → OutOk K x B M' hot I D (k (.d d) S1) → Q (.ref p) H') : NAfter K x B M σ ρ hot H I (f ρ S) Q := by
  unfold dA at h
  cases e : f ρ S with
  | ok d S1 => rw [e] at h; exact fun p H' I' R' s' o hp => q d S1 p H' I' R' s' o hp h
  | exc c S1 => rw [e] at h; exact fun σ' H' I' e R' => by subst e; exact h _ H' I' R'
  | stuck => rw [e] at h; exact h.elim
theorem gs_asgN {i : Nat} {n : Str} {e : Expr} {f : Fd} {pos pos' : Pos} (hN : X.N.Nodup) (he : GN X x M e f) (hi : X.N[i]? = some n := by rfl) (hm : i ∉ M := by decide) (hx : Loc X.env.scope n := by first | exact .inl rfl | exact .inr rfl) (hs : swapsWith e (some (.Name n pos')) pos.line X.env = pure false := by rfl)
    (hf : X.fn n = true ∨ X.env.scope.names.lookup n = some .local := by first | exact .inl rfl | exact .inr rfl) (hl : ∀ σ : L2.St, True := by intro _; trivial) : GS X x M (i :: M) (.Assign [.Name n pos'] e pos) (sAsgN i f) := by
  refine ⟨fun pins s σ H D In h => ?_⟩
  obtain ⟨B, ρ, S, I, hot, R, h⟩ := h
  have hlen : i < ρ.length := by
    rw [← R.len, In.len]
    exact (List.getElem?_eq_some_iff.mp hi).1
  refine (ps_set hN hi hx he hs hf).run pins s σ H D In ?_
  refine ⟨B, ρ, S, I, hot, R, nA_after h fun d S1 p H' I' R' s' o hp h1 => ?_⟩
  obtain ⟨_, _, hb, hn⟩ := R.freshB hp
  exact h1 _ H' I' s'.ext (R'.setOwn o hb hn hm hlen)
/-- if -/
def sIf (t : Ft) (f g : Fs) : Fs := fun ρ S => match t ρ S with
  | .ok b S1 => if b = true then f ρ S1 else g ρ S1
  | .exc c S1 => .xc c ρ S1
  | .stuck => .stuck
theorem gs_if {c : Expr} {a b : List Stmt} {t : Ft} {f g : Fs} {pos : Pos} (hc : GT X x M c t) (ha : GSs X x M M' a f) (hb : GSs X x M M' b g) : GS X x M M' (.If c a b pos) (sIf t f g) := by
  refine PS.weak (ps_if hc ha hb) ?_
  rintro D σ H ⟨B, ρ, S, I, hot, R, h⟩
  refine ⟨B, ρ, S, I, hot, R, ?_⟩
  unfold sIf at h
  cases e : t ρ S with
  | stuck => rw [e] at h; exact h.elim
  | exc cl S1 => rw [e] at h; exact fun σ' H' I' e R' => by subst e; exact h _ H' I' R'
  | ok k S1 =>
    rw [e] at h
    intro v H' I' R' s' ev
    cases (show v = k from ev)
    cases k with
    | true => exact ⟨B, ρ, S1, I', hot, R', OutOk.from h s'.ext⟩
    | false => exact ⟨B, ρ, S1, I', hot, R', OutOk.from h s'.ext⟩
/-- return e -/
def sRet (f : Fe) : Fs := fun ρ S => onE (f ρ S) ρ fun a S1 => match a with
  | .d u => .rt u S1
  | _ => .stuck
theorem gs_ret {e : Expr} {f : Fe} {pos : Pos} (he : GE X x M e f) : GS X x M M' (.Return (some e) pos) (sRet f) := by
  refine PS.weak (ps_ret he) ?_
  rintro D σ H ⟨B, ρ, S, I, hot, R, h⟩
  refine ⟨B, ρ, S, I, hot, R, onE_after h fun a S1 v H' I' R' s' ra h1 => ?_⟩
  cases ra with
  | d r => exact h1 v H' I' R'.st R'.wd r
  | _ => exact h1.elim
/-- e -/
def sExpr (f : Fe) : Fs := fun ρ S => onE (f ρ S) ρ fun _ S1 => .nx ρ S1
theorem gs_expr {e : Expr} {f : Fe} {pos : Pos} (he : GE X x M e f) (hs : swapsWith e none pos.line X.env = pure false := by rfl) : GS X x M M (.Expr e pos) (sExpr f) := by
  refine PS.weak (ps_expr he hs) ?_
  rintro D σ H ⟨B, ρ, S, I, hot, R, h⟩
  exact ⟨B, ρ, S, I, hot, R, onE_after h fun a S1 v H' I' R' s' ra h1 => h1 σ H' I' s'.ext R'⟩
/-- raise C('..') -/
structure ExcOk (K : Frag) (mg : Str → Option Value) (c : Str) : Prop where
  ex : PySem.W.excIn K (He.ga K c) He.veBase "ValueError.__new__" = true
  gl : mg c = some (.ref (He.ga K c))
  kp : PySem.W.keepIn K (.ref (He.ga K c)) = true
  sb : PySem.W.subIn K (.ref (He.ga K c)) (.type "BaseException") = some true
  ty : PySem.W.typeIn K (.ref (He.ga K c)) = some (.type "type")
def sRaise (c : Str) : Fs := fun ρ S => .xc c ρ S
theorem gs_raise {c m : Str} {j : Nat} {p p2 pos pos2 : Pos} (q : Cq X x k) (T : ExcOk X.K X.mg c) (hM : x.M = [] ∨ x.M = M := by first | exact .inl rfl | exact .inr rfl) (hc : X.calm = true := by rfl) (hgl : Gl X c := by rfl) (hdb : (c == ("__debug__" : Str)) = false := by decide) :
    GS X x M M' (.Raise (some (.Call (.Name c p) [.Constant (.str m) j p2] [] pos)) none pos2) (sRaise c) := by
  refine PS.weak (ps_raise hc q.take (pmk_own PySem.F.excBase_ValueError T.ex T.gl T.kp (raises_own T.sb T.ty) hgl hdb)) ?_
  rintro D σ H ⟨B, ρ, S, I, hot, R, h⟩
  rcases hM with hM | hM
  · obtain ⟨J, _, R3⟩ := R.freeze (M' := x.M) (by rw [hM]; intro i hi; cases hi)
    exact h σ H J R3
  · rw [← hM] at R
    exact h σ H I R
/-- for -/
def forF (t : Tgt) (f : Fs) : List D → Fs
  | [], ρ, S => .nx ρ S
  | d :: ds, ρ, S => match bindT t d ρ with
    | none => .stuck
    | some ρ' => match f ρ' S with
      | .nx ρ2 S2 => forF t f ds ρ2 S2
      | o => o
def sFor (fi : Fi) (t : Tgt) (f : Fs) : Fs := fun ρ S => match fi ρ S with
  | .ok ds S1 => forF t f ds ρ S1
  | .exc c S1 => .xc c ρ S1
  | .stuck => .stuck
theorem gs_for {tg it : Expr} {body : List Stmt} {fi : Fi} {t : Tgt} {f : Fs} {pos : Pos} (hp : PassesOwn (model X.prog X.w) X.A X.env X.xe) (hi : GI X x M tg it fi) (hg : GG X tg t) (hb : GSs X x M M body f) (hts : ∀ i ∈ t.slots, i ∉ M := by decide) (hc : X.calm = true := by rfl)
    (hs : ∀ y, foldedSetIterable it X.env y = pure y := by intro _; rfl) : GS X x M M (.For tg it body [] pos) (sFor fi t f) := by
  refine PS.weak (ps_for hp hc hi hg hb hs) ?_
  rintro D σ H ⟨B, ρ, S, I, hot, R, h⟩
  refine ⟨B, ρ, S, I, hot, R, ?_⟩
  unfold sFor at h
  cases e : fi ρ S with
  | stuck => rw [e] at h; exact h.elim
  | exc cl S1 => rw [e] at h; exact fun σ' H' I' e R' => by subst e; exact h _ H' I' R'
  | ok ds S1 =>
    rw [e] at h
    rintro J H1 I1 R1 s1 ⟨hz, w⟩
    have h : OutOk X.K x B M hot I1 D (forF t f ds ρ S1) := OutOk.from h s1.ext
    refine for_it w (fun i σ' H' => ∃ I' S' ρ', Rel X.K B M σ' H' ρ' S' I' hot ∧ Ext I1 I' ∧ OutOk X.K x B M hot I' D (forF t f (ds.drop i) ρ' S')) ⟨I1, S1, ρ, R1, Ext.refl _, by rw [List.drop_zero]; exact h⟩ ?_ ?_ ?_
    · rintro i σ' H' _ ⟨I', S', ρ', R', e', _⟩
      exact e'.trans R'.wd.ext
    · rintro i v σ' H' H'' hi ⟨I', S', ρ', R', e', h'⟩ ⟨rfl, d, hd, rd⟩
      rw [List.drop_eq_getElem_cons hi] at h'
      have ed : ds[i] = d := by rw [List.getElem?_eq_getElem hi] at hd; exact Option.some.inj hd
      rw [ed] at h'
      unfold forF at h'
      cases eb : bindT t d ρ' with
      | none => rw [eb] at h'; exact h'.elim
      | some ρ2 =>
        rw [eb] at h'
        refine gT_ok R' (rd.ext e') eb hts fun us Rw => ?_
        refine ⟨B, ρ2, S', I', hot, Rw, ?_⟩
        dsimp only at h'
        cases ef : f ρ2 S' with
        | nx ρ3 S3 => rw [ef] at h'; exact fun σ3 H3 I3 e3 R3 => ⟨I3, S3, ρ3, R3, e'.trans e3, OutOk.from h' e3⟩
        | rt d S3 => rw [ef] at h'; exact h'
        | xc c ρ3 S3 => rw [ef] at h'; exact h'
        | stuck => rw [ef] at h'; exact h'
    · rintro σ' H' ⟨I', S', ρ', R', e', h'⟩
      rw [List.drop_length] at h'
      exact h' σ' H' I' (Ext.refl _) R'
end
end G
namespace G
open PySem L2
open PySem.W (Frag)
open Classical

/-! ### owned lists and dicts, changed -/
def OwnObj (I : Hp) (u : HO) (d : D) : Prop := (∃ vs ds, d = .lst ds ∧ u = .lst vs ∧ vs.length ≤ sizeLine ∧ Reps I vs ds) ∨ ∃ ws kvs, d = .dct kvs ∧ u = .dK ws ∧ ws.length ≤ sizeLine ∧ Repk I ws kvs
section
variable {K : Frag} {x : Xc} {B : Bs} {M : List Nat} {σ : L2.St} {H : Hp} {ρ : Rho} {S : Sx} {I : Hp} {hot : List Addr}
theorem Rel.updOwn {i : Nat} {a : Addr} {u : HO} {d' : D} (r : Rel K B M σ H ρ S I hot) (hi : i ∈ M) (ha : σ[i]? = some (some (.ref a))) (ho : OwnObj I u d') : Rel K B M σ (upd H a u) (ρ.set i (some (.d d'))) S I hot := by
  obtain ⟨d, b, e1, e2, ⟨n1, n2, _⟩, n3⟩ := r.own i hi
  rw [ha] at e2
  cases e2
  have hl : i < ρ.length := (List.getElem?_eq_some_iff.mp e1).1
  have ne : ∀ c w, I c = some w → c ≠ a := fun c w e z => by rw [z, n1] at e; cases e
  refine ⟨⟨fun c w e => by rw [upd_ne (ne c w e)]; exact r.wd.ext c w e, r.wd.len, fun k c hv e1 e2 => (r.wd.at_ k c hv e1 e2).at fun o e => ?_, r.wd.off, r.wd.nd⟩, ⟨r.st.ext, fun c w e n => ?_, fun c w e => ?_, r.st.new⟩, by rw [List.length_set]; exact r.len, fun j d e hj => ?_, fun j hj => ?_, r.sep⟩
  · rw [upd_ne (fun z : c = a => n2 (by rw [← z]; exact List.mem_of_getElem? e1))]; exact e
  · rw [upd_ne (fun z => by rw [z, n3] at e; cases e)]; exact r.st.keep c w e n
  · rw [upd_ne (fun z => by rw [z, n3] at e; cases e)]; exact r.st.stay c w e
  · rw [List.getElem?_set_ne (fun z : i = j => hj (z ▸ hi))] at e
    exact r.val j d e hj
  · by_cases z : i = j
    · subst z
      refine ⟨d', a, List.getElem?_set_self hl, ha, ⟨n1, n2, ?_⟩, n3⟩
      rcases ho with ⟨vs, ds, rfl, rfl, h1, h2⟩ | ⟨vs, ds, rfl, rfl, h1, h2⟩
      · exact .inl ⟨vs, ds, rfl, upd_same, h1, h2⟩
      · exact .inr ⟨vs, ds, rfl, upd_same, h1, h2⟩
    · rw [List.getElem?_set_ne z]
      obtain ⟨d2, b, q1, q2, ⟨m1, m2, q3⟩, m3⟩ := r.own j hj
      have nz : b ≠ a := fun q => r.sep i hi j hj z (by rw [ha, q2, q])
      refine ⟨d2, b, q1, q2, ⟨m1, m2, ?_⟩, m3⟩
      rw [upd_ne nz]
      exact q3
end
/-! ### the D of an owned slot -/
def ownL (ρ : Rho) (i : Nat) : Option (List D) := match ρ[i]? with
  | some (some (.d (.lst xs))) => some xs
  | _ => none
def ownK (ρ : Rho) (i : Nat) : Option (List (Key × D)) := match ρ[i]? with
  | some (some (.d (.dct xs))) => some xs
  | _ => none
theorem ownL_eq {ρ : Rho} {i : Nat} {xs : List D} (h : ownL ρ i = some xs) : ρ[i]? = some (some (.d (.lst xs))) := by
  unfold ownL at h
  split at h
  · cases h; assumption
  · cases h
theorem ownK_eq {ρ : Rho} {i : Nat} {xs : List (Key × D)} (h : ownK ρ i = some xs) : ρ[i]? = some (some (.d (.dct xs))) := by
  unfold ownK at h
  split at h
  · cases h; assumption
  · cases h
theorem Rel.ownLst {K : Frag} {B : Bs} {M : List Nat} {σ : L2.St} {H : Hp} {ρ : Rho} {S : Sx} {I : Hp} {hot : List Addr} {i : Nat} {xs : List D} (r : Rel K B M σ H ρ S I hot) (hi : i ∈ M) (e : ownL ρ i = some xs) : ∃ a vs, σ[i]? = some (some (.ref a)) ∧ H a = some (.lst vs) ∧ vs.length ≤ sizeLine ∧ Reps I vs xs := by
  obtain ⟨d, a, h1, h2, ⟨_, _, h3⟩, _⟩ := r.own i hi
  rw [ownL_eq e] at h1
  cases h1
  rcases h3 with ⟨vs, ds, q1, q2, q3, q4⟩ | ⟨_, _, q1, _⟩
  · cases q1; exact ⟨a, vs, h2, q2, q3, q4⟩
  · cases q1
theorem Rel.ownDct {K : Frag} {B : Bs} {M : List Nat} {σ : L2.St} {H : Hp} {ρ : Rho} {S : Sx} {I : Hp} {hot : List Addr} {i : Nat} {xs : List (Key × D)} (r : Rel K B M σ H ρ S I hot) (hi : i ∈ M) (e : ownK ρ i = some xs) : ∃ a vs, σ[i]? = some (some (.ref a)) ∧ H a = some (.dK vs) ∧ vs.length ≤ sizeLine ∧ Repk I vs xs := by
  obtain ⟨d, a, h1, h2, ⟨_, _, h3⟩, _⟩ := r.own i hi
  rw [ownK_eq e] at h1
  cases h1
  rcases h3 with ⟨_, _, q1, _⟩ | ⟨vs, ds, q1, q2, q3, q4⟩
  · cases q1
  · cases q1; exact ⟨a, vs, h2, q2, q3, q4⟩
theorem Rel.ownRef {K : Frag} {B : Bs} {M : List Nat} {σ : L2.St} {H : Hp} {ρ : Rho} {S : Sx} {I : Hp} {hot : List Addr} {i : Nat} (r : Rel K B M σ H ρ S I hot) (hi : i ∈ M) : ∃ a, σ[i]? = some (some (.ref a)) ∧ ((∃ vs, H a = some (.lst vs)) ∨ ∃ ws, H a = some (.dK ws)) := by
  obtain ⟨d, a, h1, h2, ⟨_, _, h3⟩, _⟩ := r.own i hi
  rcases h3 with ⟨vs, ds, q1, q2, q3, q4⟩ | ⟨vs, ds, q1, q2, q3, q4⟩
  · exact ⟨a, h2, .inl ⟨vs, q2⟩⟩
  · exact ⟨a, h2, .inr ⟨vs, q2⟩⟩

section
variable {X : Cx} {x : Xc} {M M' : List Nat}
/-- xs.append(e), xs ours -/
def sApp (i : Nat) (f : Fe) : Fs := fun ρ S => match ownL ρ i with
  | none => .stuck
  | some xs => onE (f ρ S) ρ fun a S1 => match a with
    | .d u => if xs.length < sizeLine then .nx (ρ.set i (some (.d (.lst (xs ++ [u]))))) S1 else .stuck
    | _ => .stuck
theorem gs_app {i : Nat} {n : Str} {e : Expr} {f : Fe} {p apos cpos pos : Pos} (he : GE X x M e f) (hN : X.N[i]? = some n := by rfl) (hm : i ∈ M := by decide) (hv : Vis X.env.scope n := by first | exact Or.inl rfl | exact Or.inr (Or.inl rfl) | exact Or.inr (Or.inr rfl))
    (hd : (n == ("__debug__" : Str)) = false := by decide) (hcd : (n == ("__classdict__" : Str)) = false := by decide)
    (hbase : attributeBase (.Name n p) "append" X.env (eval (.Name n p) X.env) = eval (.Name n p) X.env := by rfl)
    (hfew : ((backTo cpos (starEach [e] X.env)).all (fun x => !x.1) && (backToKw cpos (keywordEach [] X.env)).all (fun x => x.1.isSome)
      && decide (([e]).length + ([] : List Keyword).length + (if ([] : List Keyword).isEmpty then 0 else 1) < 30)) = true := by rfl)
    (hline : (apos.endLine == cpos.line) = true := by rfl) (hs : starEach [e] X.env = (false, eval e X.env) :: starEach [] X.env := by rfl) (hplain : (backTo cpos (starEach [] X.env)).any (·.1) = false := by rfl)
    (hsw : swapsWith (.Call (.Attribute (.Name n p) "append" apos) [e] [] cpos) none pos.line X.env = pure false := by rfl) :
    GS X x M M (.Expr (.Call (.Attribute (.Name n p) "append" apos) [e] [] cpos) pos) (sApp i f) := by
  refine PS.weak (ps_expr (pe_bm PySem.F.plainAttrs_list PySem.F.slot_list_append PySem.F.type_list_append mt_append (pe_var hN hv hd hcd) (pa_cons he pa_nil hs) hbase hfew hline hs hplain) hsw) ?_
  rintro D σ H ⟨B, ρ, S, I, hot, R, h⟩
  unfold sApp at h
  cases eo : ownL ρ i with
  | none => rw [eo] at h; exact h.elim
  | some xs =>
    rw [eo] at h
    obtain ⟨a, vs, e1, e2, e3, e4⟩ := R.ownLst hm eo
    refine ⟨.ref a, e1, .inl ⟨rfl, vs, SqL.of e2⟩, B, ρ, S, I, hot, R, onE_after h fun u S1 v H' I' R' s' ra h1 => ?_⟩
    obtain ⟨a', vs', f1, f2, f3, f4⟩ := R'.ownLst hm eo
    rw [e1] at f1
    cases f1
    cases ra with
    | d r =>
      dsimp only at h1
      split at h1
      · rename_i hl
        have hl' : vs'.length < sizeLine := by rw [f4.length]; exact hl
        refine ⟨_, vs', v, rfl, rfl, f2, hl', h1 σ _ I' s'.ext (R'.updOwn hm e1 (.inl ⟨_, _, rfl, rfl, ?_, f4.append (Reps.one r)⟩))⟩
        rw [List.length_append, List.length_singleton]; omega
      · exact h1.elim
    | _ => exact h1.elim
/-- xs.extend(e), xs ours -/
def sExt (i : Nat) (f : Fe) : Fs := fun ρ S => match ownL ρ i with
  | none => .stuck
  | some xs => onE (f ρ S) ρ fun a S1 => match a with
    | .d (.lst ys) => if xs.length + ys.length ≤ sizeLine then .nx (ρ.set i (some (.d (.lst (xs ++ ys))))) S1 else .stuck
    | _ => .stuck
theorem gs_ext {i : Nat} {n : Str} {e : Expr} {f : Fe} {p apos cpos pos : Pos} (he : GE X x M e f) (hN : X.N[i]? = some n := by rfl) (hm : i ∈ M := by decide) (hv : Vis X.env.scope n := by first | exact Or.inl rfl | exact Or.inr (Or.inl rfl) | exact Or.inr (Or.inr rfl))
    (hd : (n == ("__debug__" : Str)) = false := by decide) (hcd : (n == ("__classdict__" : Str)) = false := by decide)
    (hbase : attributeBase (.Name n p) "extend" X.env (eval (.Name n p) X.env) = eval (.Name n p) X.env := by rfl)
    (hfew : ((backTo cpos (starEach [e] X.env)).all (fun x => !x.1) && (backToKw cpos (keywordEach [] X.env)).all (fun x => x.1.isSome)
      && decide (([e]).length + ([] : List Keyword).length + (if ([] : List Keyword).isEmpty then 0 else 1) < 30)) = true := by rfl)
    (hline : (apos.endLine == cpos.line) = true := by rfl) (hs : starEach [e] X.env = (false, eval e X.env) :: starEach [] X.env := by rfl) (hplain : (backTo cpos (starEach [] X.env)).any (·.1) = false := by rfl)
    (hsw : swapsWith (.Call (.Attribute (.Name n p) "extend" apos) [e] [] cpos) none pos.line X.env = pure false := by rfl) :
    GS X x M M (.Expr (.Call (.Attribute (.Name n p) "extend" apos) [e] [] cpos) pos) (sExt i f) := by
  refine PS.weak (ps_expr (pe_bm PySem.F.plainAttrs_list PySem.F.slot_list_extend PySem.F.type_list_extend mt_extend (pe_var hN hv hd hcd) (pa_cons he pa_nil hs) hbase hfew hline hs hplain) hsw) ?_
  rintro D σ H ⟨B, ρ, S, I, hot, R, h⟩
  unfold sExt at h
  cases eo : ownL ρ i with
  | none => rw [eo] at h; exact h.elim
  | some xs =>
    rw [eo] at h
    obtain ⟨a, vs, e1, e2, e3, e4⟩ := R.ownLst hm eo
    refine ⟨.ref a, e1, .inl ⟨rfl, vs, SqL.of e2⟩, B, ρ, S, I, hot, R, onE_after h fun u S1 v H' I' R' s' ra h1 => ?_⟩
    obtain ⟨a', vs', f1, f2, f3, f4⟩ := R'.ownLst hm eo
    rw [e1] at f1
    cases f1
    cases ra with
    | d r =>
      cases r with
      | @lst b zs ys hb hz hr =>
        dsimp only at h1
        split at h1
        · rename_i hl
          have hl' : vs'.length + zs.length ≤ sizeLine := by rw [f4.length, hr.length]; exact hl
          refine ⟨_, b, vs', zs, rfl, rfl, f2, R'.wd.ext _ _ hb, hl', h1 σ _ I' s'.ext (R'.updOwn hm e1 (.inl ⟨_, _, rfl, rfl, ?_, f4.append hr⟩))⟩
          rw [List.length_append]; omega
        · exact h1.elim
      | _ => exact h1.elim
    | _ => exact h1.elim
/-! ### dicts -/
def putD (kvs : List (Key × D)) (k : Key) (v : D) : List (Key × D) :=
  if (kvs.any fun kv => decide (kv.1 = k)) = true then kvs.map (fun kv => if kv.1 = k then (kv.1, v) else kv) else kvs ++ [(k, v)]
def dropD (kvs : List (Key × D)) (k : Key) : List (Key × D) := kvs.filter fun kv => decide (kv.1 ≠ k)
theorem repk_any {I : Hp} {k : Key} : ∀ {ws : List (Key × V)} {kvs : List (Key × D)}, Repk I ws kvs → (ws.any fun kv => decide (kv.1 = k)) = kvs.any fun kv => decide (kv.1 = k)
  | _, _, .nil => rfl
  | _, _, .cons _ _ r => by rw [List.any_cons, List.any_cons, repk_any r]
theorem repk_append {I : Hp} : ∀ {ws us : List (Key × V)} {kvs ls : List (Key × D)}, Repk I ws kvs → Repk I us ls → Repk I (ws ++ us) (kvs ++ ls)
  | _, _, _, _, .nil, s => s
  | _, _, _, _, .cons z h r, s => .cons z h (repk_append r s)
theorem repk_map {I : Hp} {k : Key} {v : V} {d : D} (hv : Rep I v d) : ∀ {ws : List (Key × V)} {kvs : List (Key × D)}, Repk I ws kvs → Repk I (ws.map (fun kv => if kv.1 = k then (kv.1, v) else kv)) (kvs.map (fun kv => if kv.1 = k then (kv.1, d) else kv))
  | _, _, .nil => .nil
  | _, _, .cons (k := j) z h r => by
    rw [List.map_cons, List.map_cons]
    by_cases e : j = k
    · simp only [if_pos e]
      exact .cons z hv (repk_map hv r)
    · simp only [if_neg e]
      exact .cons z h (repk_map hv r)
theorem repk_put {I : Hp} {k : Key} {v : V} {d : D} {ws : List (Key × V)} {kvs : List (Key × D)} (hk : keyOk k) (hv : Rep I v d) (r : Repk I ws kvs) : Repk I (putK ws k v) (putD kvs k d) := by
  unfold putK putD
  rw [repk_any r]
  split
  · exact repk_map hv r
  · exact repk_append r (.cons hk hv .nil)
theorem repk_drop {I : Hp} {k : Key} : ∀ {ws : List (Key × V)} {kvs : List (Key × D)}, Repk I ws kvs → Repk I (dropK ws k) (dropD kvs k)
  | _, _, .nil => .nil
  | _, _, .cons (k := j) (v := v) (d := d) (ws := ws) (kvs := kvs) z h r => by
    have ih := repk_drop (k := k) r
    unfold dropK dropD at ih ⊢
    by_cases e : j = k
    · rw [List.filter_cons_of_neg (by simp [e]), List.filter_cons_of_neg (by simp [e])]; exact ih
    · rw [List.filter_cons_of_pos (by simp [e]), List.filter_cons_of_pos (by simp [e])]; exact .cons z h ih
theorem keyD_ok {I : Hp} {v : V} {d : D} {k : Key} (r : Rep I v d) (h : keyD d = some k) : keyOk k := by
  cases r <;> simp [keyD] at h <;> subst h
  · trivial
  · assumption
/-- d[k] = e, d ours -/
def sPut (i : Nat) (fk f : Fe) : Fs := fun ρ S => match ownK ρ i with
  | none => .stuck
  | some kvs => onE (f ρ S) ρ fun a S1 => onE (fk ρ S1) ρ fun b S2 => match a, b with
    | .d u, .d k => (match keyD k with
      | some key => if kvs.length < sizeLine then .nx (ρ.set i (some (.d (.dct (putD kvs key u))))) S2 else .stuck
      | none => .stuck)
    | _, _ => .stuck
theorem gs_put {i : Nat} {n : Str} {ek e : Expr} {fk f : Fe} {p pos' pos : Pos} (hu : X.A.units + 1 < cLine) (hk : GE X x M ek fk) (he : GE X x M e f) (hN : X.N[i]? = some n := by rfl) (hm : i ∈ M := by decide) (hv : Vis X.env.scope n := by first | exact Or.inl rfl | exact Or.inr (Or.inl rfl) | exact Or.inr (Or.inr rfl))
    (hd : (n == ("__debug__" : Str)) = false := by decide) (hcd : (n == ("__classdict__" : Str)) = false := by decide)
    (hs : swapsWith e (some (.Subscript (.Name n p) ek pos')) pos.line X.env = pure false := by rfl) :
    GS X x M M (.Assign [.Subscript (.Name n p) ek pos'] e pos) (sPut i fk f) := by
  refine PS.weak (ps_dput hu (pe_var hN hv hd hcd) hk he hs) ?_
  rintro D σ H ⟨B, ρ, S, I, hot, R, h⟩
  unfold sPut at h
  cases eo : ownK ρ i with
  | none => rw [eo] at h; exact h.elim
  | some kvs =>
    rw [eo] at h
    obtain ⟨a, ws, e1, e2, e3, e4⟩ := R.ownDct hm eo
    refine ⟨B, ρ, S, I, hot, R, onE_after h fun u S1 v H' I' R' s' ra h1 => ?_⟩
    refine ⟨.ref a, e1, B, ρ, S1, I', hot, R', onE_after (OutOk.from h1 s'.ext) fun b S2 y H2 I2 R2 s2 rb h2 => ?_⟩
    have ra' := ra.ext s2.ext
    cases ra' with
    | d r =>
      cases rb with
      | @d _ kd rk =>
        dsimp only at h2
        cases ek : keyD kd with
        | none => rw [ek] at h2; exact h2.elim
        | some key =>
          rw [ek] at h2
          dsimp only at h2
          split at h2
          · rename_i hl
            obtain ⟨a', ws', f1, f2, f3, f4⟩ := R2.ownDct hm eo
            rw [e1] at f1
            cases f1
            have ev := keyD_rep rk ek
            subst ev
            have hl' : ws'.length < sizeLine := by rw [f4.length]; exact hl
            refine ⟨_, _, rfl, DPut.k f2 hl', h2 σ _ I2 s2.ext (R2.updOwn hm e1 (.inr ⟨_, _, rfl, rfl, ?_, repk_put (keyD_ok rk ek) r f4⟩))⟩
            have := length_putK ws' key v
            omega
          · exact h2.elim
      | _ => exact h2.elim
    | _ => cases rb <;> exact h2.elim
/-- d.pop(k), d ours -/
def sPop (i : Nat) (fk : Fe) : Fs := fun ρ S => match ownK ρ i with
  | none => .stuck
  | some kvs => onE (fk ρ S) ρ fun b S2 => match b with
    | .d k => (match keyD k with
      | some key => if (lookK kvs key).isSome = true then .nx (ρ.set i (some (.d (.dct (dropD kvs key))))) S2 else .stuck
      | none => .stuck)
    | _ => .stuck
theorem gs_pop {i : Nat} {n : Str} {ek : Expr} {fk : Fe} {p apos cpos pos : Pos} (hk : GE X x M ek fk) (hN : X.N[i]? = some n := by rfl) (hm : i ∈ M := by decide) (hv : Vis X.env.scope n := by first | exact Or.inl rfl | exact Or.inr (Or.inl rfl) | exact Or.inr (Or.inr rfl))
    (hd : (n == ("__debug__" : Str)) = false := by decide) (hcd : (n == ("__classdict__" : Str)) = false := by decide)
    (m : M1 X (.Name n p) "pop" apos ek cpos := by exact ⟨rfl, rfl, rfl, rfl⟩) (hsw : swapsWith (.Call (.Attribute (.Name n p) "pop" apos) [ek] [] cpos) none pos.line X.env = pure false := by rfl) :
    GS X x M M (.Expr (.Call (.Attribute (.Name n p) "pop" apos) [ek] [] cpos) pos) (sPop i fk) := by
  refine PS.weak (ps_expr (pe_dpop1 (pe_var hN hv hd hcd) hk m) hsw) ?_
  rintro D σ H ⟨B, ρ, S, I, hot, R, h⟩
  unfold sPop at h
  cases eo : ownK ρ i with
  | none => rw [eo] at h; exact h.elim
  | some kvs =>
    rw [eo] at h
    obtain ⟨a, ws, e1, e2, e3, e4⟩ := R.ownDct hm eo
    refine ⟨.ref a, e1, a, rfl, .inl ⟨ws, .inl e2⟩, B, ρ, S, I, hot, R, onE_after h fun b S2 y H2 I2 R2 s2 rb h2 => ?_⟩
    cases rb with
    | @d _ kd rk =>
      dsimp only at h2
      cases ek : keyD kd with
      | none => rw [ek] at h2; exact h2.elim
      | some key =>
        rw [ek] at h2
        dsimp only at h2
        split at h2
        · rename_i hl
          obtain ⟨a', ws', f1, f2, f3, f4⟩ := R2.ownDct hm eo
          rw [e1] at f1
          cases f1
          have ev := keyD_rep rk ek
          subst ev
          obtain ⟨dd, hdd⟩ := Option.isSome_iff_exists.mp hl
          obtain ⟨v, hv1, _⟩ := (look_rep f4).1 dd hdd
          refine ⟨ws', key, v, f2, rfl, hv1, h2 σ _ I2 s2.ext (R2.updOwn hm e1 (.inr ⟨_, _, rfl, rfl, ?_, repk_drop f4⟩))⟩
          exact Nat.le_trans (List.length_filter_le _ _) f3
        · exact h2.elim
    | _ => exact h2.elim
/-- a, b = e -/
def sUn (t : Tgt) (f : Fe) : Fs := fun ρ S => onE (f ρ S) ρ fun a S1 => match a with
  | .d u => (match bindT t u ρ with
    | some ρ' => .nx ρ' S1
    | none => .stuck)
  | _ => .stuck
theorem gs_un {tg e : Expr} {t : Tgt} {f : Fe} {pos : Pos} (he : GE X x M e f) (hg : GG X tg t) (hts : ∀ i ∈ t.slots, i ∉ M := by decide) (hs : swapsWithSole [tg] e pos.line X.env = pure false := by rfl) (hw : swappedStores [tg] e X.env = pure none := by rfl)
    (h1 : (assignEach [tg] X.env).map (·.2) = [assign tg X.env] := by rfl) : GS X x M M (.Assign [tg] e pos) (sUn t f) := by
  refine PS.weak (ps_asg he hg hs hw h1) ?_
  rintro D σ H ⟨B, ρ, S, I, hot, R, h⟩
  refine ⟨B, ρ, S, I, hot, R, onE_after h fun a S1 v H' I' R' s' ra h1 => ?_⟩
  cases ra with
  | @d _ u r =>
    dsimp only at h1
    cases eb : bindT t u ρ with
    | none => rw [eb] at h1; exact h1.elim
    | some ρ' =>
      rw [eb] at h1
      exact gT_ok R' r eb hts fun us Rw => h1 _ H' I' s'.ext Rw
  | _ => exact h1.elim
end
end G
namespace G
open PySem L2
open PySem.W (Frag)
open Classical

/-! ### a dict locked while it is walked -/
def updS (H : Hp) (d : Addr) (z : HO) : Hp := fun a => if a = d then (H d).map (fun _ => z) else H a
theorem updS_ne {H : Hp} {d a : Addr} {z : HO} (h : a ≠ d) : updS H d z a = H a := if_neg h
theorem updS_same {H : Hp} {d : Addr} {z : HO} : updS H d z d = (H d).map (fun _ => z) := if_pos rfl
def Bs.lk (B : Bs) (d : Addr) (z : HO) : Bs := ⟨updS B.H d z, updS B.I d z⟩
section
variable {K : Frag} {x : Xc} {B : Bs} {M : List Nat} {σ : L2.St} {H H' : Hp} {ρ : Rho} {S S' : Sx} {I I' : Hp} {hot : List Addr} {d : Addr} {ws : List (Key × V)} {od : Obj}
theorem lock_ext (hd : I d = some (.dK ws)) : ExtR I (upd I d (.frz od (.dK ws))) := by
  have ne : ∀ a o, I a = some o → (∀ ws, o ≠ .dK ws) → a ≠ d := fun a o e n z => by rw [z, hd] at e; cases e; exact n _ rfl
  refine ⟨fun a vs e => ?_, fun a vs e => ?_, fun a vs e => ?_, fun a vs e => ?_, fun a φ e => ?_⟩
  · rw [upd_ne (ne a _ e fun _ q => nomatch q)]; exact e
  · rw [upd_ne (ne a _ e fun _ q => nomatch q)]; exact e
  · by_cases z : a = d
    · subst z
      rcases e with e | ⟨o, e⟩
      · rw [hd] at e; cases e; exact .inr ⟨od, upd_same⟩
      · rw [hd] at e; cases e
    · rcases e with e | ⟨o, e⟩
      · exact .inl (by rw [upd_ne z]; exact e)
      · exact .inr ⟨o, by rw [upd_ne z]; exact e⟩
  · rcases e with e | ⟨o, e⟩
    · exact .inl (by rw [upd_ne (ne a _ e fun _ q => nomatch q)]; exact e)
    · exact .inr ⟨o, by rw [upd_ne (ne a _ e fun _ q => nomatch q)]; exact e⟩
  · rw [upd_ne (ne a _ e fun _ q => nomatch q)]; exact e
theorem unlock_ext (hd : I d = some (.frz od (.dK ws))) : ExtR I (upd I d (.dK ws)) := by
  have ne : ∀ a o, I a = some o → (∀ od ws, o ≠ .frz od (.dK ws)) → a ≠ d := fun a o e n z => by rw [z, hd] at e; cases e; exact n _ _ rfl
  refine ⟨fun a vs e => ?_, fun a vs e => ?_, fun a vs e => ?_, fun a vs e => ?_, fun a φ e => ?_⟩
  · rw [upd_ne (ne a _ e fun _ _ q => nomatch q)]; exact e
  · rw [upd_ne (ne a _ e fun _ _ q => nomatch q)]; exact e
  · by_cases z : a = d
    · subst z
      rcases e with e | ⟨o, e⟩
      · rw [hd] at e; cases e
      · rw [hd] at e; cases e; exact .inl upd_same
    · rcases e with e | ⟨o, e⟩
      · exact .inl (by rw [upd_ne z]; exact e)
      · exact .inr ⟨o, by rw [upd_ne z]; exact e⟩
  · rcases e with e | ⟨o, e⟩
    · exact .inl (by rw [upd_ne (ne a _ e fun _ _ q => nomatch q)]; exact e)
    · exact .inr ⟨o, by rw [upd_ne (ne a _ e fun _ _ q => nomatch q)]; exact e⟩
  · rw [upd_ne (ne a _ e fun _ _ q => nomatch q)]; exact e
theorem Rel.lock (r : Rel K B M σ H ρ S I hot) (hd : I d = some (.dK ws)) : Rel K (B.lk d (.frz od (.dK ws))) M σ (upd H d (.frz od (.dK ws))) ρ S (upd I d (.frz od (.dK ws))) hot := by
  have E := lock_ext (od := od) hd
  have nh : ∀ a ∈ hot, a ≠ d := fun a ha z => by have := r.wd.off a ha; rw [z, hd] at this; cases this
  refine ⟨⟨fun a o e => ?_, r.wd.len, fun k a hv e1 e2 => (r.wd.at_ k a hv e1 e2).at fun o e => ?_, fun a ha => ?_, r.wd.nd⟩, ⟨fun a o e => ?_, fun a o e n => ?_, fun a o e => ?_, fun a o e => ?_⟩, r.len, fun i a e n => ?_, fun i hi => ?_, r.sep⟩
  · by_cases z : a = d
    · subst z; rw [upd_same] at e ⊢; exact e
    · rw [upd_ne z] at e ⊢; exact r.wd.ext a o e
  · rw [upd_ne (nh a (List.mem_of_getElem? e1))]; exact e
  · rw [upd_ne (nh a ha)]; exact r.wd.off a ha
  · by_cases z : a = d
    · subst z
      have e : updS B.I a _ a = some o := e
      rw [updS_same] at e
      cases q : B.I a with
      | none => rw [q] at e; cases e
      | some u => rw [q] at e; cases e; exact upd_same
    · have e : updS B.I d _ a = some o := e
      rw [updS_ne z] at e; rw [upd_ne z]; exact r.st.ext a o e
  · by_cases z : a = d
    · subst z
      have e : updS B.H a _ a = some o := e
      rw [updS_same] at e
      cases q : B.H a with
      | none => rw [q] at e; cases e
      | some u => rw [q] at e; cases e; exact upd_same
    · have e : updS B.H d _ a = some o := e
      rw [updS_ne z] at e; rw [upd_ne z]; exact r.st.keep a o e n
  · by_cases z : a = d
    · subst z; exact ⟨_, upd_same⟩
    · have e : updS B.H d _ a = some o := e
      rw [updS_ne z] at e; rw [upd_ne z]; exact r.st.stay a o e
  · show updS B.I d _ a = some o ∨ updS B.H d _ a = none
    by_cases z : a = d
    · subst z
      rw [upd_same] at e
      cases e
      rcases r.st.new a _ hd with q | q
      · exact .inl (by rw [updS_same, q]; rfl)
      · exact .inr (by rw [updS_same, q]; rfl)
    · rw [upd_ne z] at e
      rw [updS_ne z, updS_ne z]
      exact r.st.new a o e
  · obtain ⟨v, h1, h2⟩ := r.val i a e n
    exact ⟨v, h1, h2.mono E (Pre.refl _)⟩
  · obtain ⟨d', a, h1, h2, ⟨h3, h4, h5⟩, h6⟩ := r.own i hi
    have z : a ≠ d := fun z => by rw [z, hd] at h3; cases h3
    refine ⟨d', a, h1, h2, ⟨by rw [upd_ne z]; exact h3, h4, ?_⟩, by show updS B.H d _ a = none; rw [updS_ne z]; exact h6⟩
    rw [upd_ne z]
    rcases h5 with ⟨vs, ds, e, ha, hz, hr⟩ | ⟨vs, ds, e, ha, hz, hr⟩
    · exact .inl ⟨vs, ds, e, ha, hz, hr.mono E⟩
    · exact .inr ⟨vs, ds, e, ha, hz, hr.mono E⟩
theorem Rel.unlock (r : Rel K B M σ H ρ S I hot) (hd : I d = some (.dK ws)) (r' : Rel K (B.lk d (.frz od (.dK ws))) M σ H' ρ S' I' hot) (s' : Stp hot (upd H d (.frz od (.dK ws))) (upd I d (.frz od (.dK ws))) H' I') :
    Rel K B M σ (upd H' d (.dK ws)) ρ S' (upd I' d (.dK ws)) hot ∧ Stp hot H I (upd H' d (.dK ws)) (upd I' d (.dK ws)) := by
  have hd' : I' d = some (.frz od (.dK ws)) := s'.ext d _ upd_same
  have hH' : H' d = some (.frz od (.dK ws)) := r'.wd.ext d _ hd'
  have E := unlock_ext hd'
  have nh : ∀ a ∈ hot, a ≠ d := fun a ha z => by have := r.wd.off a ha; rw [z, hd] at this; cases this
  have hH : H d = some (.dK ws) := r.wd.ext d _ hd
  have nhd : d ∉ hot := fun z => nh d z rfl
  constructor
  · refine ⟨⟨fun a o e => ?_, r'.wd.len, fun k a hv e1 e2 => (r'.wd.at_ k a hv e1 e2).at fun o e => ?_, fun a ha => ?_, r.wd.nd⟩, ⟨fun a o e => ?_, fun a o e n => ?_, fun a o e => ?_, fun a o e => ?_⟩, r.len, fun i a e n => ?_, fun i hi => ?_, r.sep⟩
    · by_cases z : a = d
      · subst z; rw [upd_same] at e ⊢; exact e
      · rw [upd_ne z] at e ⊢; exact r'.wd.ext a o e
    · rw [upd_ne (nh a (List.mem_of_getElem? e1))]; exact e
    · rw [upd_ne (nh a ha)]; exact r'.wd.off a ha
    · by_cases z : a = d
      · subst z
        have q := r.st.ext a o e
        rw [hd] at q; cases q; exact upd_same
      · rw [upd_ne z]
        exact r'.st.ext a o (by show updS B.I d _ a = _; rw [updS_ne z]; exact e)
    · by_cases z : a = d
      · subst z
        have q := r.st.keep a o e n
        rw [hH] at q; cases q; exact upd_same
      · rw [upd_ne z]
        exact r'.st.keep a o (by show updS B.H d _ a = _; rw [updS_ne z]; exact e) n
    · by_cases z : a = d
      · subst z; exact ⟨_, upd_same⟩
      · rw [upd_ne z]
        exact r'.st.stay a o (by show updS B.H d _ a = _; rw [updS_ne z]; exact e)
    · by_cases z : a = d
      · subst z
        rw [upd_same] at e; cases e
        exact r.st.new a _ hd
      · rw [upd_ne z] at e
        have q : updS B.I d _ a = some o ∨ updS B.H d _ a = none := r'.st.new a o e
        rw [updS_ne z, updS_ne z] at q
        exact q
    · obtain ⟨v, h1, h2⟩ := r'.val i a e n
      exact ⟨v, h1, h2.mono E (Pre.refl _)⟩
    · obtain ⟨d', a, h1, h2, ⟨h3, h4, h5⟩, h6⟩ := r'.own i hi
      have z : a ≠ d := fun z => by rw [z, hd'] at h3; cases h3
      have h6 : updS B.H d _ a = none := h6
      rw [updS_ne z] at h6
      refine ⟨d', a, h1, h2, ⟨by rw [upd_ne z]; exact h3, h4, ?_⟩, h6⟩
      rw [upd_ne z]
      rcases h5 with ⟨vs, ds, e, ha, hz, hr⟩ | ⟨vs, ds, e, ha, hz, hr⟩
      · exact .inl ⟨vs, ds, e, ha, hz, hr.mono E⟩
      · exact .inr ⟨vs, ds, e, ha, hz, hr.mono E⟩
  · refine ⟨fun a o e => ?_, fun a o e n => ?_, fun a o e => ?_, fun a o e => ?_⟩
    · by_cases z : a = d
      · subst z; rw [hd] at e; cases e; exact upd_same
      · rw [upd_ne z]; exact s'.ext a o (by rw [upd_ne z]; exact e)
    · by_cases z : a = d
      · subst z; rw [hH] at e; cases e; exact upd_same
      · rw [upd_ne z]; exact s'.keep a o (by rw [upd_ne z]; exact e) n
    · by_cases z : a = d
      · subst z; exact ⟨_, upd_same⟩
      · rw [upd_ne z]; exact s'.stay a o (by rw [upd_ne z]; exact e)
    · by_cases z : a = d
      · subst z; rw [upd_same] at e; cases e; exact .inl hd
      · rw [upd_ne z] at e
        have q := s'.new a o e
        rw [upd_ne z, upd_ne z] at q
        exact q
theorem NAfter.lock {r : Res D} {Q : VK} (R : Rel K B M σ H ρ S I hot) (hd : I d = some (.dK ws)) (nx : ∀ c S, r ≠ .exc c S) (h : NAfter K x B M σ ρ hot H I r Q) :
    NAfter K x (B.lk d (.frz od (.dK ws))) M σ ρ hot (upd H d (.frz od (.dK ws))) (upd I d (.frz od (.dK ws))) r fun v H' => H' d = some (.frz od (.dK ws)) ∧ Q v (upd H' d (.dK ws)) := by
  cases r with
  | stuck => exact h
  | exc c S => exact absurd rfl (nx c S)
  | ok u S' =>
    intro p H' I' R' s' o hp
    have hp' : p ≠ d := fun z => by rw [z, upd_same] at hp; cases hp
    have hd' : I' d = some (.frz od (.dK ws)) := s'.ext d _ upd_same
    have E := unlock_ext hd'
    obtain ⟨R2, s2⟩ := R.unlock hd R' s'
    refine ⟨R'.wd.ext d _ hd', h p _ _ R2 s2 ⟨by rw [upd_ne hp']; exact o.1, o.2.1, ?_⟩ (by rw [upd_ne hp'] at hp; exact hp)⟩
    rw [upd_ne hp']
    rcases o.2.2 with ⟨vs, ds, e, ha, hz, hr⟩ | ⟨vs, ds, e, ha, hz, hr⟩
    · exact .inl ⟨vs, ds, e, ha, hz, hr.mono E⟩
    · exact .inr ⟨vs, ds, e, ha, hz, hr.mono E⟩
end
def iKeyV (i : Nat) : Fi := fun ρ S => match ρ[i]? with
  | some (some (.d (.dct kvs))) => .ok (kvs.map fun kv => keyVal kv.1) S
  | _ => .stuck
theorem walkI_keys {I : Hp} {d : Addr} {o : Obj} {ws : List (Key × V)} {kvs : List (Key × D)} (h : I d = some (.frz o (.dK ws))) (hz : ws.length ≤ sizeLine) (r : Repk I ws kvs) : RepI I (Itk d o ws) (kvs.map fun kv => keyVal kv.1) := by
  have el : (kvs.map fun kv => keyVal kv.1).length = ws.length := by rw [List.length_map, r.length]
  refine ⟨by rw [el]; exact hz, ?_⟩
  rw [el]
  refine (walk_keys (d := d) (o := o) (kvs := ws)).mono (fun H e => e _ _ h) fun i H v H' _ _ ⟨e, k, y, h1, h2⟩ => ⟨e, ?_⟩
  have q := keyVal_reps r I
  obtain ⟨u, e1, e2⟩ := q.getV (i := i) (v := kV k) (by rw [List.getElem?_map, h1]; rfl)
  exact ⟨u, e1, by rw [h2]; exact e2⟩
section
variable {X : Cx} {x : Xc} {M : List Nat}
theorem gn_compK {i : Nat} {n : Str} {elt tg : Expr} {ifs : List Expr} {scope : Scope} {own : List (Str × Nat)} {pos p apos cpos : Pos} {t : Tgt} {ft : Ft} {fe : Fe} (hN : X.N.Nodup) (ok : BlkOk X.N X.env.scope scope own)
    (hg : ∀ (s : Shared) (H : Hp) (C : Addr) (cl : List (Str × Addr)) (fp : List Addr), GG (X.blk s H scope (compEnvC scope cl C X.env) fp) tg t)
    (ht : ∀ (s : Shared) (H : Hp) (C : Addr) (cl : List (Str × Addr)) (fp : List Addr), GTs (X.blk s H scope (compEnvC scope cl C X.env) fp) (xc0 M) M ifs ft)
    (he : ∀ (s : Shared) (H : Hp) (C : Addr) (cl : List (Str × Addr)) (fp : List Addr), GE (X.blk s H scope (compEnvC scope cl C X.env) fp) (xc0 M) M elt fe)
    (hi : X.N[i]? = some n := by rfl) (hv : Vis X.env.scope n := by first | exact Or.inl rfl | exact Or.inr (Or.inl rfl) | exact Or.inr (Or.inr rfl)) (hiM : i ∉ M := by decide)
    (hd : (n == ("__debug__" : Str)) = false := by decide) (hcd : (n == ("__classdict__" : Str)) = false := by decide)
    (hbase : attributeBase (.Name n p) "keys" X.env (eval (.Name n p) X.env) = eval (.Name n p) X.env := by rfl) (hline : (apos.endLine == cpos.line) = true := by rfl)
    (hm : ∀ i ∈ own.map (·.2), i ∉ M := by decide) (hts : ∀ i ∈ t.slots, i ∈ own.map (·.2) := by decide) (hc : X.calm = true := by rfl) (hs : ∀ y, foldedSetIterable (.Call (.Attribute (.Name n p) "keys" apos) [] [] cpos) X.env y = pure y := by intro _; rfl) :
    GN X x M (.ListComp elt [⟨tg, .Call (.Attribute (.Name n p) "keys" apos) [] [] cpos, ifs, 0⟩] scope pos) (eComp (iKeyV i) t (own.map (·.2)) ft fe) := by
  have base : PE X (.ListComp elt [⟨tg, .Call (.Attribute (.Name n p) "keys" apos) [] [] cpos, ifs, 0⟩] scope pos) (tLc (iKeysM (tVar i)) (gT X.K t) (ttOf X.K (xc0 M) M ft) (tOf X.K (xc0 M) M fe) (own.map (·.2))) :=
    pe_lc hc hN (pi_keysM (pe_var hi hv hd hcd) hbase hline) ok (fun s H C cl fp => hg s H C cl fp) (fun s H C cl fp => ht s H C cl fp) (fun s H C cl fp => he s H C cl fp) hs
  refine PE.weak (PE.or base (pe_lock base)) ?_
  rintro σ H Q ⟨B, ρ, S, I, hot, R, h⟩
  unfold eComp iKeyV at h
  split at h
  · rename_i kvs ek
    rw [bind_ok] at h
    obtain ⟨v, e1, r1⟩ := R.val i _ ek hiM
    have r2 := r1.dat
    cases r2 with
    | @dct d ws _ hr hz hk =>
      rcases hr with hr | ⟨od, hr⟩
      · refine .inr ⟨d, .dK ws, R.wd.ext _ _ hr, trivial, fun od => ⟨.ref d, e1, d, od, ws, rfl, upd_same, ?_⟩⟩
        have R2 := R.lock (od := od) hr
        have w := walkI_keys (I := upd I d (.frz od (.dK ws))) (d := d) (o := od) (ws := ws) (kvs := kvs) upd_same hz (hk.mono (lock_ext hr))
        refine lc_main (H := H) hm hts R2 w (NAfter.lock R hr (fun c S2 e => ?_) h)
        cases q : compF t (own.map (·.2)) ft fe ρ (kvs.map fun kv => keyVal kv.1) S with
        | ok _ _ => rw [q] at e; cases e
        | exc _ _ => exact comp_nx _ _ q
        | stuck => rw [q] at e; cases e
      · refine .inl ⟨.ref d, e1, d, od, ws, rfl, R.wd.ext _ _ hr, ?_⟩
        exact lc_main (H := H) hm hts R (walkI_keys hr hz hk) h
  · exact h.elim
end

/-! ### new lists and dicts -/
section
variable {X : Cx} {x : Xc} {M : List Nat}
theorem NAfter.new {K : Frag} {B : Bs} {σ : L2.St} {H : Hp} {ρ : Rho} {S : Sx} {I : Hp} {hot : List Addr} {p : Addr} {u : HO} {d : D} {Q : VK} (h : NAfter K x B M σ ρ hot H I (.ok d S) Q) (R : Rel K B M σ H ρ S I hot) (hp : H p = none) (o : OwnObj I u d) : Q (.ref p) (upd H p u) := by
  obtain ⟨f1, f2, f3, f4⟩ := R.freshB hp
  refine h p _ I (R.put f1 f2 f3 f4) (stp_add hp) ⟨f1, f2, ?_⟩ hp
  rcases o with ⟨vs, ds, rfl, rfl, h1, h2⟩ | ⟨vs, ds, rfl, rfl, h1, h2⟩
  · exact .inl ⟨vs, ds, rfl, upd_same, h1, h2⟩
  · exact .inr ⟨vs, ds, rfl, upd_same, h1, h2⟩
def nLst (g : Fa) : Fd := fun ρ S => (g ρ S).bind fun as S1 => match dats as with
  | some ds => if ds.length ≤ sizeLine then .ok (.lst ds) S1 else .stuck
  | none => .stuck
theorem gn_lst {es : List Expr} {g : Fa} {pos : Pos} (h : GA X x M es g) : GN X x M (.List es pos) (nLst g) := by
  refine PE.weak (pe_lst h) ?_
  rintro σ H Q ⟨B, ρ, S, I, hot, R, h⟩
  refine ⟨B, ρ, S, I, hot, R, (NAfter.bind h).mono ?_⟩
  rintro vs H1 ⟨I1, S1, as, R1, s1, r1, _, h1⟩
  cases e : dats as with
  | none => rw [e] at h1; exact h1.elim
  | some ds =>
    rw [e] at h1
    have q := dats_reps r1 e
    dsimp only at h1
    split at h1
    · have hz : vs.length ≤ sizeLine := by rw [q.length]; assumption
      exact ⟨hz, fun p hp => NAfter.new h1 R1 hp (.inl ⟨vs, ds, rfl, rfl, hz, q⟩)⟩
    · exact h1.elim
def nC (d : D) : Fd := fun _ S => .ok d S
theorem gn_dct0 {pos : Pos} : GN X x M (.Dict [] [] pos) (nC (.dct [])) := by
  refine PE.weak pe_dnewK ?_
  rintro σ H Q ⟨B, ρ, S, I, hot, R, h⟩
  exact fun p hp => NAfter.new (S := S) h R hp (.inr ⟨[], [], rfl, rfl, Nat.zero_le _, .nil⟩)
def nIf (t : Ft) (f g : Fd) : Fd := fun ρ S => (t ρ S).bind fun b S1 => if b = true then f ρ S1 else g ρ S1
theorem gn_if {a b c : Expr} {t : Ft} {f g : Fd} {pos : Pos} (hc : GT X x M c t) (ha : GN X x M a f) (hb : GN X x M b g) : GN X x M (.IfExp c a b pos) (nIf t f g) := by
  refine PE.weak (pe_ifExp hc ha hb) ?_
  rintro σ H Q ⟨B, ρ, S, I, hot, R, h⟩
  refine ⟨B, ρ, S, I, hot, R, (NAfter.bind h).mono ?_⟩
  rintro c H1 ⟨I1, S1, k, R1, s1, r1, _, h1⟩
  cases (show c = k from r1)
  cases c with
  | true => exact ⟨B, ρ, S1, I1, hot, R1, h1⟩
  | false => exact ⟨B, ρ, S1, I1, hot, R1, h1⟩
def catN (a b : A) (S : Sx) : Res D := match a, b with
  | .d (.lst xs), .d (.lst ys) => if xs.length + ys.length ≤ sizeLine then .ok (.lst (xs ++ ys)) S else .stuck
  | _, _ => .stuck
def nCat (f f' : Fe) : Fd := fun ρ S => (f ρ S).bind fun a S1 => (f' ρ S1).bind fun b S2 => catN a b S2
theorem gn_cat {a b : Expr} {f f' : Fe} {pos : Pos} (ha : GE X x M a f) (hb : GE X x M b f') : GN X x M (.BinOp a .Add b pos) (nCat f f') := by
  refine PE.weak (pe_op op_cat ha hb) ?_
  rintro σ H Q ⟨B, ρ, S, I, hot, R, h⟩
  refine ⟨B, ρ, S, I, hot, R, (NAfter.bind h).mono ?_⟩
  rintro v1 H1 ⟨I1, S1, a, R1, s1, r1, _, h1⟩
  refine ⟨B, ρ, S1, I1, hot, R1, (NAfter.bind h1).mono ?_⟩
  rintro v2 H2 ⟨I2, S2, b, R2, s2, r2, _, h2⟩
  have r1' := r1.ext s2.ext
  cases a with
  | d u =>
    cases u with
    | lst xs =>
      cases b with
      | d w =>
        cases w with
        | lst ys =>
          have q1 := r1'.dat
          have q2 := r2.dat
          cases q1 with
          | @lst p vs _ hp n1 hr =>
            cases q2 with
            | @lst p2 vs2 _ hp2 n2 hr2 =>
              have h3 : NAfter X.K x B M σ ρ hot H2 I2 (if xs.length + ys.length ≤ sizeLine then .ok (.lst (xs ++ ys)) S2 else .stuck) Q := h2
              split at h3
              · rename_i hl
                have hz : vs.length + vs2.length ≤ sizeLine := by rw [hr.length, hr2.length]; exact hl
                exact ⟨p, p2, vs, vs2, rfl, rfl, R2.wd.ext _ _ hp, R2.wd.ext _ _ hp2, hz, fun z hz' => NAfter.new h3 R2 hz' (.inl ⟨_, _, rfl, rfl, by rw [List.length_append]; exact hz, hr.append hr2⟩)⟩
              · exact h3.elim
        | _ => exact h2.elim
      | _ => exact h2.elim
    | _ => exact h2.elim
  | _ => exact h2.elim
/-- dict(d) -/
def nDict (f : Fe) : Fd := fun ρ S => (f ρ S).bind fun a S1 => match a with
  | .d (.dct kvs) => .ok (.dct kvs) S1
  | _ => .stuck
theorem gn_dict {e : Expr} {f : Fe} {p pos : Pos} (he : GE X x M e f) (hm : X.mg "dict" = none) (hgl : Gl X "dict" := by rfl) (hs : starEach [e] X.env = (false, eval e X.env) :: starEach [] X.env := by rfl) (hpl : (backTo pos (starEach [] X.env)).any (·.1) = false := by rfl) :
    GN X x M (.Call (.Name "dict" p) [e] [] pos) (nDict f) := by
  refine PE.weak (pe_callTy call_dictD hgl hm PyProof.Rows.boot_dict (pa_cons he pa_nil hs) (by decide) (by decide) hs hpl) ?_
  rintro σ H Q ⟨B, ρ, S, I, hot, R, h⟩
  refine ⟨B, ρ, S, I, hot, R, (NAfter.bind h).mono ?_⟩
  rintro v H1 ⟨I1, S1, a, R1, s1, r1, _, h1⟩
  cases r1 with
  | d q =>
    cases q with
    | @dct d ws kvs hr hz hk => exact ⟨d, ws, rfl, R1.wd.ext.rd hr, fun p hp => NAfter.new (S := S1) h1 R1 hp (.inr ⟨ws, kvs, rfl, rfl, hz, hk⟩)⟩
    | _ => exact h1.elim
  | _ => exact h1.elim
end

/-! ### town.append(0) -/
def sTown (i : Nat) : Fs := fun ρ S => match ρ[i]? with
  | some (some (.hot k)) => (match S[k]? with
    | some (.zs n) => if n < sizeLine then .nx ρ (S.set k (.zs (n + 1))) else .stuck
    | _ => .stuck)
  | _ => .stuck
theorem Rel.townUp {K : Frag} {B : Bs} {M : List Nat} {σ : L2.St} {H : Hp} {ρ : Rho} {S : Sx} {I : Hp} {hot : List Addr} {k : Nat} {a : Addr} {n : Nat} (r : Rel K B M σ H ρ S I hot) (hk : hot[k]? = some a) : Rel K B M σ (upd H a (.lst (List.replicate n (.int 0)))) ρ (S.set k (.zs n)) I hot := by
  have ha : a ∈ hot := List.mem_of_getElem? hk
  have hI : I a = none := r.wd.off a ha
  have kl : k < S.length := by rw [← r.wd.len]; exact (List.getElem?_eq_some_iff.mp hk).1
  refine ⟨⟨fun b o e => ?_, by rw [List.length_set]; exact r.wd.len, fun j b hv e1 e2 => ?_, r.wd.off, r.wd.nd⟩, ⟨r.st.ext, fun b o e nb => ?_, fun b o e => ?_, r.st.new⟩, r.len, r.val, fun i hi => ?_, r.sep⟩
  · rw [upd_ne (fun z => by rw [z, hI] at e; cases e)]; exact r.wd.ext b o e
  · by_cases z : j = k
    · subst z
      rw [hk] at e1; cases e1
      rw [List.getElem?_set_self kl] at e2; cases e2
      exact upd_same
    · rw [List.getElem?_set_ne (Ne.symm z)] at e2
      have nb : b ≠ a := fun q => by
        subst q
        obtain ⟨l1, q1⟩ := List.getElem?_eq_some_iff.mp e1
        obtain ⟨l2, q2⟩ := List.getElem?_eq_some_iff.mp hk
        exact z ((List.getElem_inj r.wd.nd).mp (q1.trans q2.symm))
      exact (r.wd.at_ j b hv e1 e2).at fun o e => by rw [upd_ne nb]; exact e
  · rw [upd_ne (fun z => nb (by rw [z]; exact ha))]; exact r.st.keep b o e nb
  · by_cases z : b = a
    · subst z; exact ⟨_, upd_same⟩
    · rw [upd_ne z]; exact r.st.stay b o e
  · obtain ⟨d, b, h1, h2, ⟨h3, h4, h5⟩, h6⟩ := r.own i hi
    refine ⟨d, b, h1, h2, ⟨h3, h4, ?_⟩, h6⟩
    rw [upd_ne (fun z => h4 (by rw [z]; exact ha))]
    exact h5
section
variable {X : Cx} {x : Xc} {M : List Nat}
theorem gs_town {i : Nat} {n : Str} {p p2 apos cpos pos : Pos} {j : Nat} (hN : X.N[i]? = some n := by rfl) (hm : i ∉ M := by decide) (hv : Vis X.env.scope n := by first | exact Or.inl rfl | exact Or.inr (Or.inl rfl) | exact Or.inr (Or.inr rfl))
    (hd : (n == ("__debug__" : Str)) = false := by decide) (hcd : (n == ("__classdict__" : Str)) = false := by decide)
    (hbase : attributeBase (.Name n p) "append" X.env (eval (.Name n p) X.env) = eval (.Name n p) X.env := by rfl)
    (hfew : ((backTo cpos (starEach [.Constant (.int 0) j p2] X.env)).all (fun x => !x.1) && (backToKw cpos (keywordEach [] X.env)).all (fun x => x.1.isSome)
      && decide (([Expr.Constant (.int 0) j p2]).length + ([] : List Keyword).length + (if ([] : List Keyword).isEmpty then 0 else 1) < 30)) = true := by rfl)
    (hline : (apos.endLine == cpos.line) = true := by rfl) (hs : starEach [.Constant (.int 0) j p2] X.env = (false, eval (.Constant (.int 0) j p2) X.env) :: starEach [] X.env := by rfl) (hplain : (backTo cpos (starEach [] X.env)).any (·.1) = false := by rfl)
    (hsw : swapsWith (.Call (.Attribute (.Name n p) "append" apos) [.Constant (.int 0) j p2] [] cpos) none pos.line X.env = pure false := by rfl) :
    GS X x M M (.Expr (.Call (.Attribute (.Name n p) "append" apos) [.Constant (.int 0) j p2] [] cpos) pos) (sTown i) := by
  refine PS.weak (ps_expr (pe_bm PySem.F.plainAttrs_list PySem.F.slot_list_append PySem.F.type_list_append mt_append (pe_var hN hv hd hcd) (pa_cons pe_int pa_nil hs) hbase hfew hline hs hplain) hsw) ?_
  rintro D σ H ⟨B, ρ, S, I, hot, R, h⟩
  unfold sTown at h
  split at h
  · rename_i k ek
    split at h
    · rename_i m em
      split at h
      · rename_i hl
        obtain ⟨v, e1, r1⟩ := R.val i _ ek hm
        cases r1 with
        | @hot a _ ha =>
          have hH : H a = some (.lst (List.replicate m (.int 0))) := R.wd.at_ k a _ ha em
          refine ⟨.ref a, e1, .inl ⟨rfl, _, SqL.of hH⟩, a, _, .int 0, rfl, rfl, hH, by rw [List.length_replicate]; exact hl, ?_⟩
          rw [← List.replicate_succ']
          exact h σ _ I (Ext.refl _) (R.townUp ha)
      · exact h.elim
    · exact h.elim
  · exact h.elim
end
end G
namespace G
open PySem L2
open PySem.W (Frag)
open Classical

/-! ### == and != -/
mutual
def toPy : D → PyData
  | .non => .none
  | .bl b => .bool b
  | .int i => .int i
  | .str z => .str z
  | .lst xs => .list (toPys xs)
  | .tup xs => .tuple (toPys xs)
  | .dct _ => .dict []
def toPys : List D → List PyData
  | [] => []
  | d :: ds => toPy d :: toPys ds
end
def plainD (d : D) : Bool := (toPy d).plain
def eqD (a b : D) : Option Bool :=
  if (plainD a && plainD b) = true then (if min (toPy a).depth (toPy b).depth ≤ 100 then some (PyData.eqv (toPy a) (toPy b)) else none)
  else match a, b with
    | .lst xs, .lst ys => if xs.length = ys.length then none else some false
    | .dct xs, .dct ys => if xs.length = ys.length then (if xs.isEmpty = true then some true else none) else some false
    | _, _ => none
def eqO (a b : D) : Option D := (eqD a b).map .bl
def neO (a b : D) : Option D := (eqD a b).map fun k => .bl (!k)
mutual
theorem rep_dp {K : Frag} {H I : Hp} (e : Ext I H) : ∀ {v : V} {d : D}, Rep I v d → plainD d = true → Dp K H v (toPy d)
  | _, _, .non, _ => .non
  | _, _, .bl b, _ => .bl b
  | _, _, .int i, _ => .int i
  | _, _, .str x z, _ => .str x
  | _, _, .lst h z r, p => .lst (SqL.of (e _ _ h)) (reps_dp e r (by simpa [plainD, toPy, PyData.plain] using p))
  | _, _, .tup h z r, p => .tup (SqT.of (e _ _ h)) (reps_dp e r (by simpa [plainD, toPy, PyData.plain] using p))
  | _, _, .dct h z r, p => by simp [plainD, toPy, PyData.plain] at p
theorem reps_dp {K : Frag} {H I : Hp} (e : Ext I H) : ∀ {vs : List V} {ds : List D}, Reps I vs ds → PyData.plainAll (toPys ds) = true → DpAll K H vs (toPys ds)
  | _, _, .nil, _ => .nil
  | _, _, .cons (d := d) (ds := ds) h r, p => by
    have q : (toPy d).plain = true ∧ PyData.plainAll (toPys ds) = true := by simpa [toPys, PyData.plainAll] using p
    exact .cons (rep_dp e h q.1) (reps_dp e r q.2)
end
def rEqG (K : Frag) (neg : Bool) : R2 := fun v w H Q => (∃ d e : PyData, Dp K H v d ∧ Dp K H w e ∧ d.plain = true ∧ e.plain = true ∧ min d.depth e.depth ≤ 100 ∧ Q (.bl (if neg then !PyData.eqv d e else PyData.eqv d e)) H) ∨
  (∃ a b xs ys, v = .ref a ∧ w = .ref b ∧ SqL K H a xs ∧ SqL K H b ys ∧ xs.length ≠ ys.length ∧ Q (.bl neg) H) ∨
  (∃ a b ks ls, v = .ref a ∧ w = .ref b ∧ Rd H a (.dK ks) ∧ Rd H b (.dK ls) ∧ ((ks.length ≠ ls.length ∧ Q (.bl neg) H) ∨ (ks = [] ∧ ls = [] ∧ Q (.bl (!neg)) H)))
section
variable {X : Cx}
theorem isL_of {s : Shared} {a : Addr} {its : Array Value} (h : PlainL s.heap a its) : s.heap.IsList a its := by
  obtain ⟨o, n, h1, h2, _, h3⟩ := h
  exact ⟨o, h1, h2, n, h3⟩
theorem op_eqG (hu : X.A.units + 101 < cLine) : OpR X (compareOp .Eq) (rEqG X.K false) := by
  intro pins s σ H x y v u Q I rx ry h
  rcases h with ⟨d, e, hd, he, pd, pe, hm, q⟩ | ⟨a, b, xs, ys, rfl, rfl, h1, h2, hn, q⟩ | ⟨a, b, ks, ls, rfl, rfl, h1, h2, h⟩
  · obtain ⟨as, r1⟩ := Dp.reads I d x v hd rx
    obtain ⟨bs, r2⟩ := Dp.reads I e y u he ry
    exact SeqAt.eq_plain r1 r2 pd pe (by omega) ⟨.bl _, H, I, rfl, q⟩
  · cases rx; cases ry
    obtain ⟨i1, v1, p1, _⟩ := I.list h1
    obtain ⟨i2, v2, p2, _⟩ := I.list h2
    have hne : (i1.toArray.size != i2.toArray.size) = true := by
      rw [List.size_toArray, List.size_toArray, ← v1.length, ← v2.length]; simpa using hn
    exact SeqAt.RcAt.lists_lengths (isL_of p1) (isL_of p2) hne (by omega) X.prog X.w _ _ ⟨.bl _, H, I, rfl, q⟩
  · cases rx; cases ry
    obtain ⟨_, ya, va, ra, da⟩ := dk_rd I.hok h1
    obtain ⟨_, yb, vb, rb, db⟩ := dk_rd I.hok h2
    have la : ks.length = va.length := Paired.length ra
    have lb : ls.length = vb.length := Paired.length rb
    rcases h with ⟨hn, q⟩ | ⟨rfl, rfl, q⟩
    · have hne : (va.length == vb.length) = false := by simpa [← la, ← lb] using hn
      refine PySem.W.keq_eq (knd := mixKind X.prog X.w) (r := true) ya yb da db (by omega) (fun e => absurd (by rw [la, lb]; exact e) hn) ?_
      rw [hne]
      exact ⟨.bl _, H, I, rfl, q⟩
    · cases ra; cases rb
      exact PySem.W.keq_eq (knd := mixKind X.prog X.w) (r := true) ya yb da db (by omega) (fun e => .nil) ⟨.bl _, H, I, rfl, q⟩
theorem op_neG (hu : X.A.units + 101 < cLine) : OpR X (compareOp .NotEq) (rEqG X.K true) := by
  intro pins s σ H x y v u Q I rx ry h
  rcases h with ⟨d, e, hd, he, pd, pe, hm, q⟩ | ⟨a, b, xs, ys, rfl, rfl, h1, h2, hn, q⟩ | ⟨a, b, ks, ls, rfl, rfl, h1, h2, h⟩
  · obtain ⟨as, r1⟩ := Dp.reads I d x v hd rx
    obtain ⟨bs, r2⟩ := Dp.reads I e y u he ry
    exact SeqAt.ne_plain r1 r2 pd pe (by omega) ⟨.bl _, H, I, rfl, q⟩
  · cases rx; cases ry
    obtain ⟨i1, v1, p1, _⟩ := I.list h1
    obtain ⟨i2, v2, p2, _⟩ := I.list h2
    have hne : (i1.toArray.size != i2.toArray.size) = true := by
      rw [List.size_toArray, List.size_toArray, ← v1.length, ← v2.length]; simpa using hn
    exact SeqAt.RcNeAt.lists_lengths (isL_of p1) (isL_of p2) hne (by omega) X.prog X.w _ _ ⟨.bl _, H, I, rfl, q⟩
  · cases rx; cases ry
    obtain ⟨_, ya, va, ra, da⟩ := dk_rd I.hok h1
    obtain ⟨_, yb, vb, rb, db⟩ := dk_rd I.hok h2
    have la : ks.length = va.length := Paired.length ra
    have lb : ls.length = vb.length := Paired.length rb
    rcases h with ⟨hn, q⟩ | ⟨rfl, rfl, q⟩
    · have hne : (va.length == vb.length) = false := by simpa [← la, ← lb] using hn
      refine PySem.W.keq_ne (knd := mixKind X.prog X.w) (r := true) ya yb da db (by omega) (fun e => absurd (by rw [la, lb]; exact e) hn) ?_
      rw [hne]
      exact ⟨.bl _, H, I, rfl, q⟩
    · cases ra; cases rb
      exact PySem.W.keq_ne (knd := mixKind X.prog X.w) (r := true) ya yb da db (by omega) (fun e => .nil) ⟨.bl _, H, I, rfl, q⟩
end
theorem eqG_main {K : Frag} {neg : Bool} {y : Xc} {B : Bs} {M : List Nat} {σ : L2.St} {H : Hp} {ρ : Rho} {S : Sx} {I : Hp} {hot : List Addr} {v w : V} {d1 d2 : D} {k : Bool} {Q : VK} (R : Rel K B M σ H ρ S I hot) (r1 : Rep I v d1) (r2 : Rep I w d2) (e : eqD d1 d2 = some k)
    (q : After K y B M σ ρ hot (RepA K hot) H I (.ok (.d (.bl (if neg then !k else k))) S) Q) : rEqG K neg v w H Q := by
  unfold eqD at e
  split at e
  · rename_i hp
    simp only [Bool.and_eq_true] at hp
    split at e
    · rename_i hz
      cases e
      exact .inl ⟨_, _, rep_dp R.wd.ext r1 hp.1, rep_dp R.wd.ext r2 hp.2, hp.1, hp.2, hz, q.ok R (.d (.bl _))⟩
    · cases e
  · split at e
    · split at e
      · cases e
      · rename_i hn
        cases e
        cases r1 with
        | lst h1 z1 q1 =>
          cases r2 with
          | lst h2 z2 q2 =>
            refine .inr (.inl ⟨_, _, _, _, rfl, rfl, SqL.of (R.wd.ext _ _ h1), SqL.of (R.wd.ext _ _ h2), by rw [q1.length, q2.length]; exact hn, ?_⟩)
            have := q.ok R (.d (.bl _))
            cases neg <;> exact this
    · cases r1 with
      | dct h1 z1 q1 =>
        cases r2 with
        | dct h2 z2 q2 =>
          refine .inr (.inr ⟨_, _, _, _, rfl, rfl, R.wd.ext.rd h1, R.wd.ext.rd h2, ?_⟩)
          split at e
          · rename_i hl
            split at e
            · rename_i he
              cases e
              have e1 := List.isEmpty_iff.mp he
              subst e1
              have e2 : _ = ([] : List (Key × D)) := List.eq_nil_of_length_eq_zero hl.symm
              subst e2
              cases q1; cases q2
              refine .inr ⟨rfl, rfl, ?_⟩
              have := q.ok R (.d (.bl _))
              cases neg <;> exact this
            · cases e
          · rename_i hl
            cases e
            refine .inl ⟨by rw [q1.length, q2.length]; exact hl, ?_⟩
            have := q.ok R (.d (.bl _))
            cases neg <;> exact this
    · cases e
theorem og_eq {K : Frag} : OpG K (rEqG K false) eqO := by
  intro y B M σ H ρ S I hot v w d1 d2 d Q R r1 r2 e q
  unfold eqO at e
  cases e2 : eqD d1 d2 with
  | none => rw [e2] at e; cases e
  | some k => rw [e2] at e; cases e; exact eqG_main (neg := false) R r1 r2 e2 q
theorem og_ne {K : Frag} : OpG K (rEqG K true) neO := by
  intro y B M σ H ρ S I hot v w d1 d2 d Q R r1 r2 e q
  unfold neO at e
  cases e2 : eqD d1 d2 with
  | none => rw [e2] at e; cases e
  | some k => rw [e2] at e; cases e; exact eqG_main (neg := true) R r1 r2 e2 q
theorem Cq.hq {X : Cx} {x : Xc} {k : Nat} (c : Cq X x k) : X.A.units + 101 < cLine := by have := c.room.un; omega
end G
namespace G
open PySem PySem.Spec L2 PyProof.Rows
open PySem.W (Frag)
open Classical

/-! ### len(set(xs)), xs texts -/
/-- how many different ones are among the first i -/
def ndU (xs : List Str) : Nat → Nat
  | 0 => 0
  | i + 1 => if (xs.take i).any (· == xs.getD i Str.empty) = true then ndU xs i else ndU xs i + 1
theorem ndU_le (xs : List Str) : ∀ i, ndU xs i ≤ i
  | 0 => Nat.le_refl _
  | i + 1 => by
    unfold ndU
    have := ndU_le xs i
    split <;> omega
def distinct (xs : List Str) : Nat := ndU xs xs.length
abbrev sObj (led : Bool) : Obj := { cls := .type "set", dict := none, data := .set #[] 0 (.fresh 0 0 led) }
abbrev SS1 (P : Program) (w : World) (h : Heap) (a : Addr) (xs : List Str) (i : Nat) : Prop := h.SetOf (PySem.strKind P w) a (fun z => (xs.take i).any (· == z)) (ndU xs i)
theorem SS1.keep {P : Program} {w : World} {h h2 : Heap} {a : Addr} {xs : List Str} {i : Nat} (x : SS1 P w h a xs i) (k : ∀ o, h.get? a = some o → h2.get? a = some o) : SS1 P w h2 a xs i := by
  obtain ⟨o, es, ep, t, ho, r⟩ := x
  exact ⟨o, es, ep, t, k o ho, r⟩
section
variable {P : Program} {w : World} {A : Around} {R : Result → Shared → Prop} {it : Addr} {fp wr : List Addr} {Gn : Array GenState → Array GenState → Prop} {n : Nat} {Pv : Nat → Value → Prop} {St : Nat → Shared → Prop}
theorem upd_texts (W : WalksS P w A.in1 it fp wr Gn n Pv St) (a : Addr) (ha : a ∉ fp) (xs : List Str) (hz : xs.length = n) (hb : n + 1 < 4096) (hv : ∀ i v, Pv i v → ∃ t, v = .str (xs.getD i Str.empty) t) :
    ∀ (m i : Nat) (s : Shared), n - i = m → i ≤ n → St i s → SS1 P w s.heap a xs i → (∀ s2, Moved (a :: wr) Gn s s2 → SS1 P w s2.heap a xs n → R (.ok (.ret .none)) s2) → codeAny (model P w) A (.builtin "set.update.loop" ⟨[.ref a, .ref it], []⟩) R s := by
  have aw : a ∉ wr := fun z => ha (W.sub _ z)
  have sb : ∀ b ∈ wr, b ∈ a :: wr := fun b z => List.mem_cons_of_mem _ z
  intro m
  induction m with
  | zero =>
    intro i s em hi st hs kR
    obtain rfl : i = n := by omega
    refine codeAny_builtin PyProof.Rows.F.entry_set_update_loop (by
      rw [Around.under_plainId PyProof.Rows.F.plain_set_update_loop _]
      refine wpAny_bind (W.done s _ _ st fun s2 mv => ?_)
      exact wpAny_pure (kR s2 (mv.mono sb) (hs.keep fun o e => mv.heap a o aw e)))
  | succ m ih =>
    intro i s em hi st hs kR
    have lt : i < n := by omega
    refine codeAny_builtin PyProof.Rows.F.entry_set_update_loop (by
      rw [Around.under_plainId PyProof.Rows.F.plain_set_update_loop _]
      refine wpAny_bind (W.item i s _ _ lt st fun v s2 pv st2 mv => ?_)
      obtain ⟨t, rfl⟩ := hv i v pv
      have hs2 : SS1 P w s2.heap a xs i := hs.keep fun o e => mv.heap a o aw e
      refine wpAny_bind (wpAny_holding (show wpAny _ A.in1 (setAdd a (.str (xs.getD i Str.empty) t)) _ _ s2 from ?_))
      unfold setAdd
      refine wpAny_holding (wpAny_bind ((PySem.strKind P w).pyHash (k := xs.getD i Str.empty) (strKind_is _ _ _ _) ?_))
      have rm : ndU xs i + 1 < scanBound := by unfold scanBound; have := ndU_le xs i; omega
      refine wpAny_setAddHashed_of (knd := PySem.strKind P w) (s := { s2 with toks := s2.toks + 1 }) (strKind_is _ _ _ _) rfl hs2 rm fun h2 same hs3 => ?_
      have hs4 : SS1 P w h2 a xs (i + 1) := by
        have gi : xs[i]? = some (xs.getD i Str.empty) := by
          rw [List.getD_eq_getElem?_getD, List.getElem?_eq_getElem (by omega)]; rfl
        refine SetOf_congr hs3 (fun z => ?_) rfl
        rw [List.take_add_one, gi, List.any_append]
        by_cases e : z = xs.getD i Str.empty
        · subst e; simp
        · have hb : (xs.getD i Str.empty == z) = false := beq_eq_false_iff_ne.mpr fun q => e q.symm
          simp only [Option.toList, List.any_cons, List.any_nil, hb, decide_eq_false e, Bool.or_false]
      refine wpAny_pure ⟨plainId_quiet PyProof.Rows.F.plain_set_update_loop _, ih (i + 1) _ (by omega) lt (W.frame _ s2 _ _ st2 (Nat.le_succ _) fun b z o e => ?_) hs4 fun s3 mv3 hs5 => kR s3 (Moved.trans W.gtrans ((mv.mono sb).then_heap (Nat.le_succ _) fun b o z e => ?_) mv3) hs5⟩
      · rw [same.2 b (fun q : b = a => ha (q ▸ z))]; exact e
      · rw [same.2 b (fun q : b = a => z (q ▸ List.mem_cons_self))]; exact e)
end
section
variable {P : Program} {w : World} {A : Around} {E : Value → Shared → Prop} {s : Shared}
theorem set_listS {l : Addr} {its : Array Value} {xs : List Str} {Q : Value → Shared → Prop} (hh : A.handled = none) (hl : s.heap.IsList l its) (hi : StrsAre its.toList xs) (hb : xs.length + 1 < 4096)
    (k : ∀ (h2 : Heap) (tk : Nat), SS1 P w h2 s.heap.objs.size xs xs.length → (∀ b o, b < s.heap.objs.size → s.heap.get? b = some o → h2.get? b = some o) → Q (.ref s.heap.objs.size) { s with heap := h2, toks := tk }) : wpAny (model P w) A (call (.type "set") [.ref l]) Q E s := by
  have hz : xs.length = its.size := by rw [← StrsAre.len_eq hi, Array.length_toList]
  obtain ⟨c0, t0, m0⟩ := PySem.F.called_set.mro
  have m1 := PySem.F.called_set.made; have m2 := PySem.F.called_set.sub
  refine wpAny_call (codeAny_of_tree (show wpAny _ _ (callAny (.type "set") _) _ _ _ from ?_))
  refine wpAny_pure ⟨Code.quiet_builtin _ (by decide +kernel), codeAny_builtin PySem.F.entry_type_call (by
    rw [Around.under_plain (weight_type_call_type "set" [.ref l] []) rfl]
    have m3 := PySem.F.called_set.notType; have m4 := PySem.F.called_set.canCreate; have m5 := PySem.F.typeCall_set_1 (.ref l)
    repeat (any_goals (first | assumption | wp_step))
    refine codeAny_mono (code_set_new_1 (.ref l) (E := E) (Q₁ := fun ob s1 => ∃ led : Bool, ob = .ref s.heap.objs.size ∧ s1 = { s with heap := s.heap.push (sObj led) }) fun led => ⟨led, rfl, rfl⟩) fun r s1 hr => ?_
    cases r with
    | error e => exact hr
    | ok fl =>
      cases fl with
      | ret ob =>
        obtain ⟨led, rfl, rfl⟩ := hr
        have g1 : (s.heap.push (sObj led)).get? s.heap.objs.size = some (sObj led) := Heap.get?_push_size _ rfl
        have g2 : Shared.TypeIs { s with heap := s.heap.push (sObj led) } (.ref s.heap.objs.size) "set" := ⟨_, g1, rfl⟩
        have m6 := PySem.F.called_set.init.lookup; have m7 := PySem.F.called_set.init.bind (.ref s.heap.objs.size)
        repeat (any_goals (first | assumption | wp_step))
        refine codeAny_mono (codeAny_call_builtin (R := wants (fun r s2 => r = .none ∧ ∃ h2 tk, s2 = { s with heap := h2, toks := tk } ∧ SS1 P w h2 s.heap.objs.size xs xs.length ∧ ∀ b o, b < s.heap.objs.size → s.heap.get? b = some o → h2.get? b = some o) E)
          PySem.F.called_set.init.plain PySem.F.entry_set_init (check_set_init_1 g2 ?_)) fun r2 s2 hr2 => ?_
        · obtain ⟨⟨oc, od, oo, os⟩, h1, h2, nl, h3⟩ := hl
          simp only at h2 h3
          subst h2; subst h3
          have h1' : (s.heap.push (sObj led)).get? l = some { cls := .type "list", dict := od, data := .seq its nl, slots := os } := Heap.get?_push_of_some _ h1
          have n1 := PySem.F.sub_list_set; have n2 := PySem.F.sub_list_frozenset
          have n3 : (Value.type "list" == Value.type "dict") = false := by decide
          have hl1 : (s.heap.push (sObj led)).IsList l its := ⟨_, h1', rfl, nl, rfl⟩
          unfold Builtin.«set.__init__» noKeywords Builtin.Frozenset.updateFrom
          generalize hPI : pyIter = PI
          wp_walk
          subst hPI
          refine wpAny_pyIter_list hl1 (wpAny_bind (wpAny_runValue ?_))
          have lS : l < s.heap.objs.size := Heap.lt_size h1
          have h4 : A.in1.in1.in1.handled = none := by simp [hh]
          have ne1 : l ≠ (s.heap.push (sObj led)).objs.size := by rw [Heap.size_push]; exact Nat.ne_of_lt (Nat.lt_succ_of_lt lS)
          have ne2 : s.heap.objs.size ∉ [(s.heap.push (sObj led)).objs.size, l] := by
            rw [Heap.size_push]; simp only [List.mem_cons, List.not_mem_nil, or_false, not_or]
            exact ⟨Nat.ne_of_lt (Nat.lt_succ_self _), Nat.ne_of_gt lS⟩
          refine upd_texts ((Walks.list h4 _ l ne1 its).toS) s.heap.objs.size ne2 xs hz (by omega) (fun i v hv => SS.strs_at hi i v (by rw [Array.getElem?_toList]; exact hv)) (its.size - 0) 0 _ (by omega) (Nat.zero_le _) ⟨⟨_, Heap.get?_push_size _ rfl, rfl, rfl⟩, (hl1.push _)⟩ ?z0 ?zR
          case z0 =>
            have g3 : ((s.heap.push (sObj led)).push { cls := .type "list_iterator", data := .fields #[.ref l, .int 0 0] }).get? s.heap.objs.size = some (sObj led) := Heap.get?_push_of_some _ g1
            exact PyProof.Rows.SetOf_congr ((PyProof.Rows.setObjOf_fresh (knd := PySem.strKind P w) led).setOf g3 (by unfold scanBound; omega)) (fun _ => rfl) rfl
          case zR =>
            rintro ⟨h5, g5, d5, t5, o5⟩ mv hs5
            obtain rfl : g5 = s.gens := mv.gens
            obtain rfl : d5 = s.drawn := mv.drawn
            obtain rfl : o5 = s.os := mv.os
            refine wpAny_pure (show wpAny _ _ (ret Value.none) _ _ _ from wpAny_pure ⟨rfl, h5, t5, rfl, by rw [hz]; exact hs5, fun b o hb e => ?_⟩)
            have b1 : b ≠ s.heap.objs.size := Nat.ne_of_lt hb
            have b2 : b ≠ (s.heap.push (sObj led)).objs.size := by rw [Heap.size_push]; exact Nat.ne_of_lt (Nat.lt_succ_of_lt hb)
            exact mv.heap b o (by simp only [List.mem_cons, List.not_mem_nil, or_false, not_or]; exact ⟨b1, b2⟩) (Heap.get?_push_of_some _ (Heap.get?_push_of_some _ e))
        · cases r2 with
          | error e => exact hr2
          | ok fl2 =>
            cases fl2 with
            | ret r =>
              obtain ⟨rfl, h2, tk, rfl, hs2, hk2⟩ := hr2
              repeat (any_goals (first | assumption | wp_step))
              exact k _ _ hs2 hk2
            | _ => exact hr2.elim
      | _ => exact hr.elim)⟩
theorem set_tupleS {l : Addr} {its : Array Value} {xs : List Str} {Q : Value → Shared → Prop} (hh : A.handled = none) (hl : s.heap.IsTuple l its) (hi : StrsAre its.toList xs) (hb : xs.length + 1 < 4096)
    (k : ∀ (h2 : Heap) (tk : Nat), SS1 P w h2 s.heap.objs.size xs xs.length → (∀ b o, b < s.heap.objs.size → s.heap.get? b = some o → h2.get? b = some o) → Q (.ref s.heap.objs.size) { s with heap := h2, toks := tk }) : wpAny (model P w) A (call (.type "set") [.ref l]) Q E s := by
  have hz : xs.length = its.size := by rw [← StrsAre.len_eq hi, Array.length_toList]
  obtain ⟨c0, t0, m0⟩ := PySem.F.called_set.mro
  have m1 := PySem.F.called_set.made; have m2 := PySem.F.called_set.sub
  refine wpAny_call (codeAny_of_tree (show wpAny _ _ (callAny (.type "set") _) _ _ _ from ?_))
  refine wpAny_pure ⟨Code.quiet_builtin _ (by decide +kernel), codeAny_builtin PySem.F.entry_type_call (by
    rw [Around.under_plain (weight_type_call_type "set" [.ref l] []) rfl]
    have m3 := PySem.F.called_set.notType; have m4 := PySem.F.called_set.canCreate; have m5 := PySem.F.typeCall_set_1 (.ref l)
    repeat (any_goals (first | assumption | wp_step))
    refine codeAny_mono (code_set_new_1 (.ref l) (E := E) (Q₁ := fun ob s1 => ∃ led : Bool, ob = .ref s.heap.objs.size ∧ s1 = { s with heap := s.heap.push (sObj led) }) fun led => ⟨led, rfl, rfl⟩) fun r s1 hr => ?_
    cases r with
    | error e => exact hr
    | ok fl =>
      cases fl with
      | ret ob =>
        obtain ⟨led, rfl, rfl⟩ := hr
        have g1 : (s.heap.push (sObj led)).get? s.heap.objs.size = some (sObj led) := Heap.get?_push_size _ rfl
        have g2 : Shared.TypeIs { s with heap := s.heap.push (sObj led) } (.ref s.heap.objs.size) "set" := ⟨_, g1, rfl⟩
        have m6 := PySem.F.called_set.init.lookup; have m7 := PySem.F.called_set.init.bind (.ref s.heap.objs.size)
        repeat (any_goals (first | assumption | wp_step))
        refine codeAny_mono (codeAny_call_builtin (R := wants (fun r s2 => r = .none ∧ ∃ h2 tk, s2 = { s with heap := h2, toks := tk } ∧ SS1 P w h2 s.heap.objs.size xs xs.length ∧ ∀ b o, b < s.heap.objs.size → s.heap.get? b = some o → h2.get? b = some o) E)
          PySem.F.called_set.init.plain PySem.F.entry_set_init (check_set_init_1 g2 ?_)) fun r2 s2 hr2 => ?_
        · obtain ⟨⟨oc, od, oo, os⟩, h1, h2, nl, h3⟩ := hl
          simp only at h2 h3
          subst h2; subst h3
          have h1' : (s.heap.push (sObj led)).get? l = some { cls := .type "tuple", dict := od, data := .seq its nl, slots := os } := Heap.get?_push_of_some _ h1
          have n1 := PySem.F.sub_tuple_set; have n2 := PySem.F.sub_tuple_frozenset
          have n3 : (Value.type "tuple" == Value.type "dict") = false := by decide
          have hl1 : (s.heap.push (sObj led)).IsTuple l its := ⟨_, h1', rfl, nl, rfl⟩
          unfold Builtin.«set.__init__» noKeywords Builtin.Frozenset.updateFrom
          generalize hPI : pyIter = PI
          wp_walk
          subst hPI
          refine wpAny_pyIter_tuple hl1 (wpAny_bind (wpAny_runValue ?_))
          have lS : l < s.heap.objs.size := Heap.lt_size h1
          have h4 : A.in1.in1.in1.handled = none := by simp [hh]
          have ne1 : l ≠ (s.heap.push (sObj led)).objs.size := by rw [Heap.size_push]; exact Nat.ne_of_lt (Nat.lt_succ_of_lt lS)
          have ne2 : s.heap.objs.size ∉ [(s.heap.push (sObj led)).objs.size, l] := by
            rw [Heap.size_push]; simp only [List.mem_cons, List.not_mem_nil, or_false, not_or]
            exact ⟨Nat.ne_of_lt (Nat.lt_succ_self _), Nat.ne_of_gt lS⟩
          refine upd_texts ((Walks.tuple h4 _ l ne1 its).toS) s.heap.objs.size ne2 xs hz (by omega) (fun i v hv => SS.strs_at hi i v (by rw [Array.getElem?_toList]; exact hv)) (its.size - 0) 0 _ (by omega) (Nat.zero_le _) ⟨⟨_, Heap.get?_push_size _ rfl, rfl, rfl⟩, (hl1.push _)⟩ ?z0 ?zR
          case z0 =>
            have g3 : ((s.heap.push (sObj led)).push { cls := .type "tuple_iterator", data := .fields #[.ref l, .int 0 0] }).get? s.heap.objs.size = some (sObj led) := Heap.get?_push_of_some _ g1
            exact PyProof.Rows.SetOf_congr ((PyProof.Rows.setObjOf_fresh (knd := PySem.strKind P w) led).setOf g3 (by unfold scanBound; omega)) (fun _ => rfl) rfl
          case zR =>
            rintro ⟨h5, g5, d5, t5, o5⟩ mv hs5
            obtain rfl : g5 = s.gens := mv.gens
            obtain rfl : d5 = s.drawn := mv.drawn
            obtain rfl : o5 = s.os := mv.os
            refine wpAny_pure (show wpAny _ _ (ret Value.none) _ _ _ from wpAny_pure ⟨rfl, h5, t5, rfl, by rw [hz]; exact hs5, fun b o hb e => ?_⟩)
            have b1 : b ≠ s.heap.objs.size := Nat.ne_of_lt hb
            have b2 : b ≠ (s.heap.push (sObj led)).objs.size := by rw [Heap.size_push]; exact Nat.ne_of_lt (Nat.lt_succ_of_lt hb)
            exact mv.heap b o (by simp only [List.mem_cons, List.not_mem_nil, or_false, not_or]; exact ⟨b1, b2⟩) (Heap.get?_push_of_some _ (Heap.get?_push_of_some _ e))
        · cases r2 with
          | error e => exact hr2
          | ok fl2 =>
            cases fl2 with
            | ret r =>
              obtain ⟨rfl, h2, tk, rfl, hs2, hk2⟩ := hr2
              repeat (any_goals (first | assumption | wp_step))
              exact k _ _ hs2 hk2
            | _ => exact hr2.elim
      | _ => exact hr.elim)⟩
end
def strsD : List D → Option (List Str)
  | [] => some []
  | .str z :: r => (strsD r).map (z :: ·)
  | _ :: _ => none
@[simp] theorem strsD_nil : strsD [] = some [] := rfl
@[simp] theorem strsD_cons (z : Str) (r : List D) : strsD (.str z :: r) = (strsD r).map (z :: ·) := rfl
theorem strsD_rep {I : Hp} : ∀ {vs : List V} {ds : List D} {zs : List Str}, Reps I vs ds → strsD ds = some zs → vs = zs.map V.str
  | _, _, _, .nil, e => by cases e; rfl
  | _, _, _, .cons (d := d) h r, e => by
    cases h with
    | str z hz =>
      rw [strsD_cons] at e
      cases e2 : strsD _ with
      | none => rw [e2] at e; cases e
      | some zs => rw [e2] at e; cases e; rw [strsD_rep r e2]; rfl
    | _ => cases e
def lenSetD (a : A) (S : Sx) : Res A := match itemsOf a with
  | some ds => (match strsD ds with
    | some zs => if zs.length + 1 < 4096 then .ok (.d (.int (distinct zs : Nat))) S else .stuck
    | none => .stuck)
  | none => .stuck
def isSeq : A → Bool
  | .d (.lst _) => true
  | .d (.tup _) => true
  | _ => false
def eLenSet (f : Fe) : Fe := fun ρ S => (f ρ S).bind fun a S1 => if isSeq a = true then lenSetD a S1 else .stuck
def tLenSetG (K : Frag) (ta : TE) : TE := fun σ H Q => ta σ H fun v H1 => ∃ l, ∃ xs : List Str, v = .ref l ∧ (SqL K H1 l (xs.map V.str) ∨ SqT K H1 l (xs.map V.str)) ∧ xs.length + 1 < 4096 ∧ Q (.int (distinct xs : Nat)) H1
section
variable {X : Cx} {x : Xc} {M : List Nat}
theorem pe_lenSetG {a : Expr} {ta : TE} {p p2 q pos : Pos} (hc : X.calm = true) (hg : Gl X "len") (hm : X.mg "len" = none) (hg2 : Gl X "set") (hm2 : X.mg "set" = none) (ha : PE X a ta)
    (na : starEach [a] X.env = (false, eval a X.env) :: starEach [] X.env) : PE X (.Call (.Name "len" p) [.Call (.Name "set" p2) [a] [] q] [] pos) (tLenSetG X.K ta) := by
  refine ⟨fun pins s σ H Q I h => Call_ (ld_blt I hg hm boot_len (PyProof.Rows.callWith_builtin1 (PyProof.Rows.args_cons (Call_ (ld_blt I hg2 hm2 boot_set ?_)) rfl) rfl rfl))⟩
  refine PyProof.Rows.callWith_type1 (PyProof.Rows.args_cons (thn (ha.run pins s σ H _ I h) fun v s1 ⟨y, H1, I1, r1, q1⟩ => PyProof.Rows.args_nil ?_) na) na rfl
  obtain ⟨l, xs, rfl, hq, hb, q1⟩ := q1
  cases r1
  have fin : ∀ (h2 : Heap) (tk : Nat), SS1 X.prog X.w h2 s1.heap.objs.size xs xs.length → (∀ b o, b < s1.heap.objs.size → s1.heap.get? b = some o → h2.get? b = some o) →
      wpAny (model X.prog X.w) X.A (spliced (backTo pos (starEach [] X.env))) (fun vs s2 => wpAny (model X.prog X.w) X.A (call (.builtin "len") (Value.ref s1.heap.objs.size :: vs)) (EP X pins σ Q) X.xe s2) X.xe { s1 with heap := h2, toks := tk } := fun h2 tk hS hk => by
    obtain ⟨o, es, ep, t, ho, hex, hd, _, _, _, hf, hn⟩ := hS
    have I2 : Inv X pins σ H1 { s1 with heap := h2, toks := tk } := I1.kept fun b o e => hk b o (Heap.lt_size e) e
    have le := ndU_le xs xs.length
    exact PyProof.Rows.args_nil (call_len_set ho hex hd hf (by rw [hn]; omega) ⟨.int (distinct xs : Nat), H1, I2.tok _, ⟨_, by rw [hn]; rfl⟩, q1⟩)
  rcases hq with hq | hq
  · obtain ⟨its, r, pl, hz⟩ := I1.list hq
    exact set_listS (I1.ok.hd hc) pl.isList (by simpa using strsAre_of r) hb fin
  · obtain ⟨its, r, pl, hz⟩ := I1.tuple hq
    exact set_tupleS (I1.ok.hd hc) pl (by simpa using strsAre_of r) hb fin
theorem ge_lenSet {a : Expr} {f : Fe} {p p2 q pos : Pos} (ha : GE X x M a f) (hm : X.mg "len" = none) (hm2 : X.mg "set" = none) (hc : X.calm = true := by rfl) (hg : Gl X "len" := by rfl) (hg2 : Gl X "set" := by rfl)
    (na : starEach [a] X.env = (false, eval a X.env) :: starEach [] X.env := by rfl) : GE X x M (.Call (.Name "len" p) [.Call (.Name "set" p2) [a] [] q] [] pos) (eLenSet f) := by
  refine PE.weak (pe_lenSetG hc hg hm hg2 hm2 ha na) ?_
  rintro σ H Q ⟨B, ρ, S, I, hot, R, h⟩
  refine ⟨B, ρ, S, I, hot, R, h.bind.mono ?_⟩
  rintro v H1 ⟨I1, S1, a1, R1, s1, r1, _, h1⟩
  cases r1 with
  | d r =>
    cases r with
    | @lst b vs ds hb hz hr =>
      have h2 : After X.K x B M σ ρ hot (RepA X.K hot) H1 I1 (match strsD ds with
        | some zs => if zs.length + 1 < 4096 then .ok (.d (.int (distinct zs : Nat))) S1 else .stuck
        | none => .stuck) Q := h1
      cases es : strsD ds with
      | none => rw [es] at h2; exact h2.elim
      | some zs =>
        rw [es] at h2
        dsimp only at h2
        split at h2
        · rename_i hl
          refine ⟨b, zs, rfl, .inl ?_, hl, h2.ok R1 (.d (.int _))⟩
          rw [← strsD_rep hr es]
          exact SqL.of (R1.wd.ext _ _ hb)
        · exact h2.elim
    | @tup b vs ds hb hz hr =>
      have h2 : After X.K x B M σ ρ hot (RepA X.K hot) H1 I1 (match strsD ds with
        | some zs => if zs.length + 1 < 4096 then .ok (.d (.int (distinct zs : Nat))) S1 else .stuck
        | none => .stuck) Q := h1
      cases es : strsD ds with
      | none => rw [es] at h2; exact h2.elim
      | some zs =>
        rw [es] at h2
        dsimp only at h2
        split at h2
        · rename_i hl
          refine ⟨b, zs, rfl, .inr ?_, hl, h2.ok R1 (.d (.int _))⟩
          rw [← strsD_rep hr es]
          exact SqT.of (R1.wd.ext _ _ hb)
        · exact h2.elim
    | _ => exact h1.elim
  | _ => exact h1.elim
end
end G
namespace G
open PySem PySem.Spec PyProof.Rows L2
open PySem.W (Frag)
open Classical

/-! ### a def -/
def outF (o : Out) : Res D := match o with
  | .nx _ S => .ok .non S
  | .rt d S => .ok d S
  | .xc c _ S => .exc c S
  | .stuck => .stuck
def runF (n m : Nat) (f : Fs) : Fn := fun as S => if as.length = n then outF (f (as.map some ++ List.replicate m none) S) else .stuck
theorem paired_len {K : Frag} {hot : List Addr} {I : Hp} : ∀ {vs : List V} {as : List A}, RepsA K hot I vs as → vs.length = as.length
  | _, _, .nil => rfl
  | _, _, .cons _ r => by simp [paired_len r]
theorem paired_get {K : Frag} {hot : List Addr} {I : Hp} : ∀ {vs : List V} {as : List A}, RepsA K hot I vs as → ∀ {i : Nat} {a : A}, as[i]? = some a → ∃ v, vs[i]? = some v ∧ RepA K hot I v a
  | _, _, .nil, i, a, e => by simp at e
  | _, _, .cons h r, 0, a, e => by simp at e; subst e; exact ⟨_, rfl, h⟩
  | _, _, .cons h r, i + 1, a, e => by
    obtain ⟨v, h1, h2⟩ := paired_get r (i := i) (a := a) (by simpa using e)
    exact ⟨v, by simpa using h1, h2⟩
theorem rel_start {K : Frag} {hot : List Addr} {I H : Hp} {S : Sx} {N : List Str} {vs : List V} {as : List A} {m : Nat} (w : Wld K H S I hot) (r : RepsA K hot I vs as) (hN : N.length = as.length + m) :
    Rel K ⟨H, I⟩ [] (L2.start N vs) H (as.map some ++ List.replicate m none) S I hot := by
  have hl := paired_len r
  have em : N.length - vs.length = m := by omega
  refine ⟨w, Stp.refl _ _ _, by unfold L2.start; simp; omega, fun i a e _ => ?_, fun i hi => by simp at hi, fun i hi => by simp at hi⟩
  unfold L2.start
  rw [em]
  by_cases hi : i < as.length
  · rw [List.getElem?_append_left (by rw [List.length_map]; exact hi), List.getElem?_map] at e
    rw [List.getElem?_append_left (by rw [List.length_map]; omega), List.getElem?_map]
    cases q : as[i]? with
    | none => rw [q] at e; cases e
    | some b =>
      rw [q] at e
      cases e
      obtain ⟨v, h1, h2⟩ := paired_get r q
      exact ⟨v, by rw [h1]; rfl, h2⟩
  · rw [List.getElem?_append_right (by rw [List.length_map]; omega), List.getElem?_replicate] at e
    split at e <;> cases e
/-- the wish of a def's body about exceptions -/
def xcE (E : XK) : Xc := ⟨fun cls d _ H => E cls d H, []⟩
abbrev DfD (K : Frag) (st : Stmt) (x : Str) (f : Addr) (fd : FuncData) : Prop := FunD K x x (defArgs st) (defBody st) (defScope st) [] [] f fd
/-- what a body's derivation is over -/
structure Bd (P : Program) (w : World) (K : Frag) (mg : Str → Option Value) (base : Heap) (k : Nat) (N : List Str) (x : Str) (sc : Scope) (body : List Stmt) (fs : Fs) : Prop where
  run : ∀ (f : Addr) (cdv : Value) (A : Around) (outer : List Env) (s : Shared) (H : Hp) (E : XK), Cq (cxOf (L2.CX P w) P w K mg base N x sc f cdv A outer s H E) (xcE E) k →
    PassesOwn (model P w) (cxOf (L2.CX P w) P w K mg base N x sc f cdv A outer s H E).A (cxOf (L2.CX P w) P w K mg base N x sc f cdv A outer s H E).env (cxOf (L2.CX P w) P w K mg base N x sc f cdv A outer s H E).xe →
    ∃ M', GSs (cxOf (L2.CX P w) P w K mg base N x sc f cdv A outer s H E) (xcE E) [] M' body fs
section
variable {P : Program} {w : World} {K : Frag} {mg : Str → Option Value} {base : Heap}
theorem fn_G {k n m : Nat} {st : Stmt} {x : Str} {f : Addr} {fd : FuncData} {N ps : List Str} {fs : Fs} (F : DfD K st x f fd) (S : FnScope N ps (defScope st)) (hn : ps.length = n) (hN : N.length = n + m) (b : Bd P w K mg base k N x (defScope st) (defBody st) fs) :
    FnOk P w K mg base (L2.CX P w) (k + 1) f fd ps (spOf K (runF n m fs)) := by
  refine FunD.ok (CX := L2.CX P w) F S (fun vs H Q E h => ?_) fun cdv A outer s H vs Q E hr h => ?_
  · obtain ⟨as, S1, I, hot, w1, r, h⟩ := h
    unfold runF at h
    split at h
    · rename_i q
      split at q
      · rename_i hl; rw [paired_len r, hl, hn]
      · cases q
    · rename_i q
      split at q
      · rename_i hl; rw [paired_len r, hl, hn]
      · cases q
    · exact h.elim
  · have T : Takes (cxOf (L2.CX P w) P w K mg base N x (defScope st) f cdv A outer s H E) (xcE E).W := takes_of rfl rfl rfl rfl
    obtain ⟨M', g⟩ := b.run f cdv A outer s H E ⟨hr, T⟩ (passes_of rfl)
    refine ⟨_, g, ?_⟩
    obtain ⟨as, S1, I, hot, w1, r, h⟩ := h
    unfold runF at h
    by_cases hl : as.length = n
    · rw [if_pos hl] at h
      refine ⟨⟨H, I⟩, as.map some ++ List.replicate m none, S1, I, hot, rel_start w1 r (by rw [hN, hl]), ?_⟩
      cases e : fs (as.map some ++ List.replicate m none) S1 with
      | nx ρ2 S2 => rw [e] at h; exact fun σ' H' I' _ R' => h .non H' I' R'.st R'.wd .non
      | rt d S2 => rw [e] at h; exact fun v H' I' st w rv => h v H' I' st w rv
      | xc c ρ2 S2 => rw [e] at h; exact fun σ' H' I' R' => h H' I' R'.st R'.wd
      | stuck => rw [e] at h; exact h.elim
    · rw [if_neg hl] at h
      exact h.elim
/-- where a def stands -/
structure At (K : Frag) (mg : Str → Option Value) (st : Stmt) (x : Str) (ps : List Str) : Prop where
  ex : ∃ f fd, DfD K st x f fd ∧ mg x = some (.ref f) ∧ Binds K fd ps []
theorem callee_G {k n m : Nat} {st : Stmt} {x : Str} {N ps : List Str} {fs : Fs} (a : At K mg st x ps) (S : FnScope N ps (defScope st)) (hn : ps.length = n) (hN : N.length = n + m) (b : Bd P w K mg base k N x (defScope st) (defBody st) fs) : Callee P w K mg base (k + 1) x (runF n m fs) := by
  obtain ⟨f, fd, F, hm, hb⟩ := a.ex
  exact ⟨f, fd, ps, fn_G F S hn hN b, hm, F.kp, hb⟩
theorem callee_0 {st : Stmt} {x : Str} {ps : List Str} (a : At K mg st x ps) : Callee P w K mg base 0 x (fun _ _ => .stuck) := by
  obtain ⟨f, fd, F, hm, hb⟩ := a.ex
  refine ⟨f, fd, ps, ⟨fun vs H Q E h => ?_, fun A outer s H args us vs Q E _ _ _ _ h => ?_⟩, hm, F.kp, hb⟩
  · obtain ⟨_, _, _, _, _, _, h⟩ := h; exact h.elim
  · obtain ⟨_, _, _, _, _, _, h⟩ := h; exact h.elim
end
end G
namespace G
open PySem L2
open PySem.W (Frag)
open Classical

/-! ### the law's own def: town = [], then the rest -/
def spLaw (K : Frag) : Sp := fun vs H Q _ => ∃ (a : Addr) (ns : List Int), vs = [.ref a] ∧ SqL K H a (ns.map V.int) ∧ ns.length ≤ 63 ∧ ∀ H', Q (.bl true) H'
section
variable {P : Program} {w : World} {K : Frag} {mg : Str → Option Value} {base : Heap}
theorem law_G {k m : Nat} {st : Stmt} {f : Addr} {fd : FuncData} {N : List Str} {fs : Fs} {p1 p2 p3 : Pos} {rest : List Stmt} (F : DfD K st "law" f fd) (Sc : FnScope N ["script"] (defScope st)) (hN : N.length = 2 + m) (ht : N[1]? = some ("town" : Str))
    (hl : Loc (defScope st) "town") (eb : defBody st = .Assign [.Name "town" p1] (.List [] p2) p3 :: rest)
    (hs : ∀ (fa : Addr) (cdv : Value) (A : Around) (outer : List Env) (s : Shared) (H : Hp) (E : XK), swapsWith (.List [] p2) (some (.Name "town" p1)) p3.line (cxOf (L2.CX P w) P w K mg base N "law" (defScope st) fa cdv A outer s H E).env = pure false)
    (b : Bd P w K mg base k N "law" (defScope st) rest fs)
    (mt : ∀ ns : List Int, ns.length ≤ 63 → ∃ S, outF (fs (some (.scr ns) :: some (.hot 0) :: List.replicate m none) [.zs 0]) = .ok (.bl true) S) : FnOk P w K mg base (L2.CX P w) (k + 1) f fd ["script"] (spLaw K) := by
  refine FunD.ok (CX := L2.CX P w) F Sc (fun vs H Q E h => ?_) fun cdv A outer s H vs Q E hr h => ?_
  · obtain ⟨a, ns, rfl, _⟩ := h; rfl
  · have T : Takes (cxOf (L2.CX P w) P w K mg base N "law" (defScope st) f cdv A outer s H E) (xcE E).W := takes_of rfl rfl rfl rfl
    obtain ⟨M', g⟩ := b.run f cdv A outer s H E ⟨hr, T⟩ (passes_of rfl)
    rw [eb]
    refine ⟨_, pss_cons (ps_set (i := 1) Sc.nd ht hl (pe_lst pa_nil) (hs f cdv A outer s H E) (.inl rfl)) g, ?_⟩
    obtain ⟨a, ns, rfl, hS, h63, hQ⟩ := h
    refine ⟨Nat.zero_le _, fun p hp => ?_⟩
    have e0 : L2.start N [.ref a] = some (.ref a) :: List.replicate (1 + m) none := by
      unfold L2.start
      have : N.length - [V.ref a].length = 1 + m := by simp; omega
      rw [this]; rfl
    rw [e0]
    have e1 : (some (V.ref a) :: List.replicate (1 + m) none).set 1 (some (V.ref p)) = some (.ref a) :: some (.ref p) :: List.replicate m none := by
      rw [Nat.add_comm, List.replicate_succ]; rfl
    show sOf K (xcE E) [] M' fs _ ((some (V.ref a) :: List.replicate (1 + m) none).set 1 (some (V.ref p))) (upd H p (.lst []))
    rw [e1]
    obtain ⟨S2, e2⟩ := mt ns h63
    refine ⟨⟨upd H p (.lst []), H⟩, some (.scr ns) :: some (.hot 0) :: List.replicate m none, [.zs 0], H, [p], ⟨⟨upd_ext hp, rfl, fun k b hv h1 h2 => ?_, fun b hb => ?_, by simp⟩, Stp.refl _ _ _, by simp, fun i d h1 _ => ?_, fun i hi => by simp at hi, fun i hi => by simp at hi⟩, ?_⟩
    · cases k with
      | zero => simp at h1 h2; subst h1; subst h2; exact upd_same
      | succ k => simp at h1
    · simp at hb; subst hb; exact hp
    · match i, h1 with
      | 0, h1 => simp at h1; subst h1; exact ⟨_, rfl, .scr hS⟩
      | 1, h1 => simp at h1; subst h1; exact ⟨_, rfl, .hot rfl⟩
      | i + 2, h1 =>
        simp only [List.getElem?_cons_succ, List.getElem?_replicate] at h1
        split at h1 <;> cases h1
    · cases e : fs (some (.scr ns) :: some (.hot 0) :: List.replicate m none) [.zs 0] with
      | nx ρ2 S3 => rw [e] at e2; cases e2
      | rt d S3 =>
        rw [e] at e2
        cases e2
        intro v H' I' _ _ rv
        cases rv
        exact hQ H'
      | xc c ρ2 S3 => rw [e] at e2; cases e2
      | stuck => rw [e] at e2; cases e2
theorem cx_no {H : Hp} {s : Shared} {e : Value} {s' : Shared} (h : L2.CX P w [] H s (fun _ _ _ => False) e s') : False := by
  obtain ⟨_, _, _, _, _, _, _, _, _, _, _, _, z⟩ := h
  exact z
/-- what a def lets out, whatever the world -/
def CX1 : CXT := fun outer H s E u s' => ∃ (P : Program) (w : World), L2.CX P w outer H s E u s'
theorem fn_cx1 {k : Nat} {f : Addr} {fd : FuncData} {ps : List Str} {sp : Sp} (F : FnOk P w K mg base (L2.CX P w) k f fd ps sp) : FnOk P w K mg base CX1 k f fd ps sp := by
  refine ⟨F.len, fun A outer s H args us vs Q E hr he hb hv hs => codeAny_mono (F.run A outer s H args us vs Q E hr he hb hv hs) fun r s' h => ?_⟩
  cases r with
  | ok v => cases v <;> exact h
  | error e => exact ⟨P, w, h⟩
theorem cx1_no {H : Hp} {s : Shared} {e : Value} {s' : Shared} (h : CX1 [] H s (fun _ _ _ => False) e s') : False := by
  obtain ⟨_, _, h⟩ := h
  exact cx_no h
end
end G
namespace G
open PySem L2
open PySem.W (Frag)
open Classical

/-! ### facts of the head -/
def entB (e : DictEntry) : Option (Str × Int) := match e.key, e.val with
  | .str x _, .int i _ => some (x, i)
  | _, _ => none
def tabB (a : Str) (tab : List (Str × Int)) (K : Frag) : Bool := match K.lookup (He.ga K a) with
  | some ⟨_, _, .dict es _, _⟩ => decide (es.toList.map entB = tab.map some)
  | _ => false
theorem find_ent (z : Str) : ∀ {l : List DictEntry} {tab : List (Str × Int)}, l.map entB = tab.map some →
    (match tab.find? (fun p => decide (p.1 = z)) with
      | some p => ∃ e t, l.find? (fun e => e.key.isStr z) = some e ∧ e.val = .int p.2 t
      | none => l.find? (fun e => e.key.isStr z) = none) ∧ l.any (fun e => e.refKey) = false
  | [], [], _ => ⟨rfl, rfl⟩
  | [], _ :: _, h => by cases h
  | _ :: _, [], h => by cases h
  | e :: l, p :: tab, h => by
    have h1 : entB e = some p ∧ l.map entB = tab.map some := by simpa using h
    obtain ⟨h2, h3⟩ := h1
    obtain ⟨i1, i2⟩ := find_ent z h3
    unfold entB at h2
    split at h2
    · rename_i x t i u ek ev
      cases h2
      have er : e.refKey = false := by unfold DictEntry.refKey; rw [ek]
      have es : e.key.isStr z = decide (x = z) := by
        rw [ek]; unfold Value.isStr; simp [Bool.beq_eq_decide_eq]
      refine ⟨?_, by rw [List.any_cons, er, i2]; rfl⟩
      by_cases q : x = z
      · simp only [List.find?_cons, es, q, decide_true]
        exact ⟨e, u, rfl, ev⟩
      · simp only [List.find?_cons, es, q, decide_false]
        exact i1
    · cases h2
theorem tabl_of {K : Frag} {w : World} {a : Str} {tab : List (Str × Int)} (h1 : ∃ es n, KDict K w (He.ga K a) es n) (h2 : tabB a tab K = true) : Tabl K w (He.ga K a) tab := by
  refine ⟨h1, fun z => ?_⟩
  unfold tabB at h2
  unfold PySem.W.nsIn
  split at h2
  · rename_i es _ _ el
    rw [el]
    obtain ⟨f1, f2⟩ := find_ent z (of_decide_eq_true h2)
    dsimp only
    cases q : tab.find? (fun p => decide (p.1 = z)) with
    | none =>
      rw [q] at f1
      dsimp only at f1
      rw [f1]
      refine ⟨none, ?_, rfl⟩
      dsimp only
      rw [f2]; rfl
    | some p =>
      rw [q] at f1
      obtain ⟨e, t, f3, f4⟩ := f1
      rw [f3]
      exact ⟨some e.val, rfl, t, by rw [f4]⟩
  · cases h2
theorem exc_of {K : Frag} {h : Heap} {mg : Str → Option Value} {c : Str} (X : K.In h) (Gn : h.Ns mainGlobals mg) (h1 : (He.Fa.exc c).ok K = true) (h2 : (He.Fa.glo c).ok K = true) : ExcOk K mg c := by
  obtain ⟨a, b, d, e⟩ := He.exc_ok h1
  exact ⟨a, He.glo_ok X Gn h2, b, d, e⟩
end G
/-! Evaluation of the mirrors. -/
namespace G
open PySem L2
section
variable {ρ : Rho} {S : Sx}
@[simp] theorem ev_var {i : Nat} : eVar i ρ S = (match ρ[i]? with
  | some (some a) => .ok a S
  | _ => .stuck) := rfl
@[simp] theorem ev_c {d : D} : eC d ρ S = .ok (.d d) S := rfl
@[simp] theorem ev_op {g : D → D → Option D} {f f' : Fe} : eOp g f f' ρ S = (f ρ S).bind fun a S1 => (f' ρ S1).bind fun b S2 => op2 g a b S2 := rfl
@[simp] theorem ev_and {f g : Fe} : eAndF f g ρ S = (f ρ S).bind fun a S1 => (toB a S1).bind fun b S2 => if b = true then g ρ S2 else .ok (.d (.bl false)) S2 := rfl
@[simp] theorem ev_or {f g : Fe} : eOrF f g ρ S = (f ρ S).bind fun a S1 => (toB a S1).bind fun b S2 => if b = true then .ok (.d (.bl true)) S2 else g ρ S2 := rfl
@[simp] theorem ev_not {f : Fe} : eNotF f ρ S = (f ρ S).bind fun a S1 => (toB a S1).bind fun b S2 => .ok (.d (.bl (!b))) S2 := rfl
@[simp] theorem ev_if {t : Ft} {f g : Fe} : eIf t f g ρ S = (t ρ S).bind fun b S1 => if b = true then f ρ S1 else g ρ S1 := rfl
@[simp] theorem ev_chain {g g' : D → D → Option D} {f1 f2 f3 : Fe} : eChain g g' f1 f2 f3 ρ S = (f1 ρ S).bind fun a S1 => (f2 ρ S1).bind fun b S2 => (op2 g a b S2).bind fun z S3 => (toB z S3).bind fun k S4 =>
  if k = true then (f3 ρ S4).bind fun c S5 => op2 g' b c S5 else .ok (.d (.bl false)) S4 := rfl
@[simp] theorem ev_isN {f : Fe} : eIsN f ρ S = (f ρ S).bind fun a S1 => .ok (.d (.bl (isN a))) S1 := rfl
@[simp] theorem ev_notN {f : Fe} : eNotN f ρ S = (f ρ S).bind fun a S1 => .ok (.d (.bl (!isN a))) S1 := rfl
@[simp] theorem ev_tst {f : Fe} : tst f ρ S = (f ρ S).bind toB := rfl
@[simp] theorem ev_tru {f : Fe} : tTru f ρ S = (f ρ S).bind fun a S1 => (match truA S1 a with
  | some b => .ok b S1
  | none => .stuck) := rfl
@[simp] theorem ev_tand {t u : Ft} : tAndF t u ρ S = (t ρ S).bind fun b S1 => if b = true then u ρ S1 else .ok false S1 := rfl
@[simp] theorem ev_tor {t u : Ft} : tOrF t u ρ S = (t ρ S).bind fun b S1 => if b = true then .ok true S1 else u ρ S1 := rfl
@[simp] theorem ev_tnot {t : Ft} : tNotF t ρ S = (t ρ S).bind fun b S1 => .ok (!b) S1 := rfl
@[simp] theorem ev_yes : tYesF ρ S = .ok true S := rfl
@[simp] theorem ev_nil : aNil ρ S = .ok [] S := rfl
@[simp] theorem ev_cons {f : Fe} {g : Fa} : aCons f g ρ S = (f ρ S).bind fun a S1 => (g ρ S1).bind fun as S2 => .ok (a :: as) S2 := rfl
@[simp] theorem ev_tup {g : Fa} : eTup g ρ S = (g ρ S).bind (mkSeq .tup) := rfl
@[simp] theorem ev_lst {g : Fa} : eLst g ρ S = (g ρ S).bind (mkSeq .lst) := rfl
@[simp] theorem ev_ix {f f' : Fe} : eIx f f' ρ S = (f ρ S).bind fun a S1 => (f' ρ S1).bind fun b S2 => ixA a b S2 := rfl
@[simp] theorem ev_sl {f : Fe} {fl fh : Rho → Sx → Res (Option Int)} : eSl f fl fh ρ S = (f ρ S).bind fun a S1 => (fl ρ S1).bind fun lo S2 => (fh ρ S2).bind fun hi S3 => slA a lo hi S3 := rfl
@[simp] theorem ev_onone : oNone ρ S = .ok none S := rfl
@[simp] theorem ev_osome {f : Fe} : oSome f ρ S = (f ρ S).bind toI := rfl
@[simp] theorem toI_int {i : Int} : toI (.d (.int i)) S = .ok (some i) S := rfl
@[simp] theorem ev_rev {f : Fe} : eRev f ρ S = (f ρ S).bind fun a S1 => (match a with
  | .d u => ofO (revD u) S1
  | _ => .stuck) := rfl
@[simp] theorem ev_neg {f : Fe} : eNeg f ρ S = (f ρ S).bind fun a S1 => (match a with
  | .d u => ofO (negD u) S1
  | _ => .stuck) := rfl
@[simp] theorem ev_call {g : Sx → List A → Option D} {fa : Fa} : eCall g fa ρ S = (fa ρ S).bind fun as S1 => ofO (g S1 as) S1 := rfl
@[simp] theorem ev_isi {T : PyT} {f : Fe} : eIsi T f ρ S = (f ρ S).bind fun a S1 => (match a with
  | .d u => .ok (.d (.bl (isi T u))) S1
  | _ => .stuck) := rfl
@[simp] theorem ev_join {f f' : Fe} : eJoin f f' ρ S = (f ρ S).bind fun a S1 => (match a with
  | .d (.str z) => (f' ρ S1).bind fun b S2 => op2 joinD (.d (.str z)) b S2
  | _ => .stuck) := rfl
@[simp] theorem ev_tab {tab : List (Str × Int)} {f : Fe} {n : Int} : eTab tab f n ρ S = (f ρ S).bind fun a S1 => (match a with
  | .d (.str z) => .ok (.d (.int (tabGet tab z n))) S1
  | _ => .stuck) := rfl
@[simp] theorem ev_keys {f : Fe} : eKeys f ρ S = (f ρ S).bind fun a S1 => (match a with
  | .d u => ofO (keysD u) S1
  | _ => .stuck) := rfl
@[simp] theorem ev_sortKeys {f : Fe} : eSortKeys f ρ S = (f ρ S).bind fun a S1 => (match a with
  | .d u => ofO (sortKeysD u) S1
  | _ => .stuck) := rfl
@[simp] theorem ev_lenSet {f : Fe} : eLenSet f ρ S = (f ρ S).bind fun a S1 => if isSeq a = true then lenSetD a S1 else .stuck := rfl
@[simp] theorem ev_dA {f : Fd} : dA f ρ S = (f ρ S).bind fun d S1 => .ok (.d d) S1 := rfl
@[simp] theorem ev_comp {fi : Fi} {t : Tgt} {W : List Nat} {ft : Ft} {fe : Fe} : eComp fi t W ft fe ρ S = (fi ρ S).bind fun ds S1 => (compF t W ft fe ρ ds S1).bind fun ys S2 => .ok (.lst ys) S2 := rfl
@[simp] theorem ev_iseq {f : Fe} : iSeq f ρ S = (f ρ S).bind fun a S1 => (match itemsOf a with
  | some ds => .ok ds S1
  | none => .stuck) := rfl
@[simp] theorem ev_rng1 {f : Fe} : iRng1 f ρ S = (f ρ S).bind fun a S1 => (match a with
  | .d (.int j) => if -(2 ^ 30) ≤ j ∧ j ≤ sizeLine then .ok (rangeD 0 j.toNat) S1 else .stuck
  | _ => .stuck) := rfl
@[simp] theorem ev_keyV {i : Nat} : iKeyV i ρ S = (match ρ[i]? with
  | some (some (.d (.dct kvs))) => .ok (kvs.map fun kv => keyVal kv.1) S
  | _ => .stuck) := rfl
@[simp] theorem ev_own {F : Fn} {fa : Fa} : eOwn F fa ρ S = (fa ρ S).bind fun as S1 => (F as S1).bind fun d S2 => .ok (.d d) S2 := rfl
@[simp] theorem ev_snil : sNil ρ S = .nx ρ S := rfl
@[simp] theorem ev_sasg {i : Nat} {f : Fe} : sAsg i f ρ S = onE (f ρ S) ρ fun a S1 => .nx (ρ.set i (some a)) S1 := rfl
@[simp] theorem ev_sasgN {i : Nat} {f : Fd} : sAsgN i f ρ S = onE (dA f ρ S) ρ fun a S1 => .nx (ρ.set i (some a)) S1 := rfl
@[simp] theorem ev_sret {f : Fe} : sRet f ρ S = onE (f ρ S) ρ fun a S1 => (match a with
  | .d u => .rt u S1
  | _ => .stuck) := rfl
@[simp] theorem ev_sexpr {f : Fe} : sExpr f ρ S = onE (f ρ S) ρ fun _ S1 => .nx ρ S1 := rfl
@[simp] theorem ev_sraise {c : Str} : sRaise c ρ S = .xc c ρ S := rfl
def onT (r : Res Bool) (ρ : Rho) (k : Bool → Sx → Out) : Out := match r with
  | .ok b S => k b S
  | .exc c S => .xc c ρ S
  | .stuck => .stuck
@[simp] theorem onT_ok {b : Bool} {k : Bool → Sx → Out} : onT (.ok b S) ρ k = k b S := rfl
@[simp] theorem ev_sif {t : Ft} {f g : Fs} : sIf t f g ρ S = onT (t ρ S) ρ fun b S1 => if b = true then f ρ S1 else g ρ S1 := rfl
def onI (r : Res (List D)) (ρ : Rho) (k : List D → Sx → Out) : Out := match r with
  | .ok b S => k b S
  | .exc c S => .xc c ρ S
  | .stuck => .stuck
@[simp] theorem onI_ok {b : List D} {k : List D → Sx → Out} : onI (.ok b S) ρ k = k b S := rfl
@[simp] theorem ev_sfor {fi : Fi} {t : Tgt} {f : Fs} : sFor fi t f ρ S = onI (fi ρ S) ρ fun ds S1 => forF t f ds ρ S1 := rfl
def thenS (o : Out) (g : Fs) : Out := match o with
  | .nx ρ' S' => g ρ' S'
  | o => o
@[simp] theorem then_nx {g : Fs} : thenS (.nx ρ S) g = g ρ S := rfl
@[simp] theorem then_rt {d : D} {g : Fs} : thenS (.rt d S) g = .rt d S := rfl
@[simp] theorem then_xc {c : Str} {g : Fs} : thenS (.xc c ρ S) g = .xc c ρ S := rfl
@[simp] theorem then_stuck {g : Fs} : thenS .stuck g = .stuck := rfl
@[simp] theorem ev_seq {f g : Fs} : sSeq f g ρ S = thenS (f ρ S) g := rfl
theorem then_ite {p : Prop} [Decidable p] {a b : Out} {g : Fs} : thenS (if p then a else b) g = if p then thenS a g else thenS b g := by split <;> rfl
@[simp] theorem ev_sapp {i : Nat} {f : Fe} : sApp i f ρ S = (match ownL ρ i with
  | none => .stuck
  | some xs => onE (f ρ S) ρ fun a S1 => match a with
    | .d u => if xs.length < sizeLine then .nx (ρ.set i (some (.d (.lst (xs ++ [u]))))) S1 else .stuck
    | _ => .stuck) := rfl
@[simp] theorem ev_sext {i : Nat} {f : Fe} : sExt i f ρ S = (match ownL ρ i with
  | none => .stuck
  | some xs => onE (f ρ S) ρ fun a S1 => match a with
    | .d (.lst ys) => if xs.length + ys.length ≤ sizeLine then .nx (ρ.set i (some (.d (.lst (xs ++ ys))))) S1 else .stuck
    | _ => .stuck) := rfl
@[simp] theorem ownL_d {i : Nat} {xs : List D} (h : ρ[i]? = some (some (.d (.lst xs)))) : ownL ρ i = some xs := by unfold ownL; rw [h]
@[simp] theorem ownK_d {i : Nat} {xs : List (Key × D)} (h : ρ[i]? = some (some (.d (.dct xs)))) : ownK ρ i = some xs := by unfold ownK; rw [h]
@[simp] theorem ev_sput {i : Nat} {fk f : Fe} : sPut i fk f ρ S = (match ownK ρ i with
  | none => .stuck
  | some kvs => onE (f ρ S) ρ fun a S1 => onE (fk ρ S1) ρ fun b S2 => match a, b with
    | .d u, .d k => (match keyD k with
      | some key => if kvs.length < sizeLine then .nx (ρ.set i (some (.d (.dct (putD kvs key u))))) S2 else .stuck
      | none => .stuck)
    | _, _ => .stuck) := rfl
@[simp] theorem ev_spop {i : Nat} {fk : Fe} : sPop i fk ρ S = (match ownK ρ i with
  | none => .stuck
  | some kvs => onE (fk ρ S) ρ fun b S2 => match b with
    | .d k => (match keyD k with
      | some key => if (lookK kvs key).isSome = true then .nx (ρ.set i (some (.d (.dct (dropD kvs key))))) S2 else .stuck
      | none => .stuck)
    | _ => .stuck) := rfl
@[simp] theorem ev_sun {t : Tgt} {f : Fe} : sUn t f ρ S = onE (f ρ S) ρ fun a S1 => (match a with
  | .d u => (match bindT t u ρ with
    | some ρ' => .nx ρ' S1
    | none => .stuck)
  | _ => .stuck) := rfl
@[simp] theorem ev_nlst {g : Fa} : nLst g ρ S = (g ρ S).bind fun as S1 => (match dats as with
  | some ds => if ds.length ≤ sizeLine then .ok (.lst ds) S1 else .stuck
  | none => .stuck) := rfl
@[simp] theorem ev_nc {d : D} : nC d ρ S = .ok d S := rfl
@[simp] theorem ev_nif {t : Ft} {f g : Fd} : nIf t f g ρ S = (t ρ S).bind fun b S1 => if b = true then f ρ S1 else g ρ S1 := rfl
@[simp] theorem ev_ncat {f f' : Fe} : nCat f f' ρ S = (f ρ S).bind fun a S1 => (f' ρ S1).bind fun b S2 => catN a b S2 := rfl
@[simp] theorem ev_ndict {f : Fe} : nDict f ρ S = (f ρ S).bind fun a S1 => (match a with
  | .d (.dct kvs) => .ok (.dct kvs) S1
  | _ => .stuck) := rfl
@[simp] theorem ev_run {n m : Nat} {f : Fs} {as : List A} : runF n m f as S = if as.length = n then outF (f (as.map some ++ List.replicate m none) S) else .stuck := rfl
@[simp] theorem outF_nx : outF (.nx ρ S) = .ok .non S := rfl
@[simp] theorem outF_rt {d : D} : outF (.rt d S) = .ok d S := rfl
@[simp] theorem outF_xc {c : Str} : outF (.xc c ρ S) = .exc c S := rfl
theorem outF_ite {p : Prop} [Decidable p] {a b : Out} : outF (if p then a else b) = if p then outF a else outF b := by split <;> rfl
end
/-! ### small facts -/
@[simp] theorem sl_line : sizeLine = 16777216 := sizeLine_eq
@[simp] theorem mkSeq_ds {c : List D → D} {as : List A} {ds : List D} {S : Sx} (h : dats as = some ds) (hl : ds.length ≤ 16777216) : mkSeq c as S = .ok (.d (c ds)) S := by
  unfold mkSeq; rw [h]; simp only [sl_line]; rw [if_pos hl]
@[simp] theorem ixA_d {u w : D} {S : Sx} : ixA (.d u) (.d w) S = ofO (ixD u w) S := by
  cases u <;> cases w <;> rfl
@[simp] theorem slA_d {u : D} {lo hi : Option Int} {S : Sx} : slA (.d u) lo hi S = ofO (slD u lo hi) S := rfl
theorem atI_nat {α : Type} {xs : List α} {i : Nat} (h : i < xs.length) : atI xs (i : Int) = some xs[i] := by
  unfold atI ixN
  rw [if_pos (by omega), if_pos (by omega)]
  simp [h]
theorem atI_int' {α : Type} {xs : List α} {i : Int} (h0 : 0 ≤ i) (h1 : i < xs.length) : ∃ a ∈ xs, atI xs i = some a := by
  have e : i = ((i.toNat : Nat) : Int) := by omega
  have hl : i.toNat < xs.length := by omega
  rw [e, atI_nat hl]
  exact ⟨_, List.getElem_mem hl, rfl⟩
@[simp] theorem atI_0 {α : Type} {a : α} {xs : List α} : atI (a :: xs) 0 = some a := by
  have := atI_nat (xs := a :: xs) (i := 0) (by simp)
  simpa using this
@[simp] theorem atI_1 {α : Type} {a b : α} {xs : List α} : atI (a :: b :: xs) 1 = some b := by
  have := atI_nat (xs := a :: b :: xs) (i := 1) (by simp)
  simpa using this
@[simp] theorem atI_2 {α : Type} {a b c : α} {xs : List α} : atI (a :: b :: c :: xs) 2 = some c := by
  have := atI_nat (xs := a :: b :: c :: xs) (i := 2) (by simp)
  simpa using this
@[simp] theorem ixD_tup {xs : List D} {i : Int} : ixD (.tup xs) (.int i) = atI xs i := rfl
@[simp] theorem ixD_lst {xs : List D} {i : Int} : ixD (.lst xs) (.int i) = atI xs i := rfl
@[simp] theorem ixD_dct {kvs : List (Key × D)} {z : Str} : ixD (.dct kvs) (.str z) = lookK kvs (.inr z) := rfl
@[simp] theorem addD_int {i j : Int} : addD (.int i) (.int j) = some (.int (i + j)) := rfl
@[simp] theorem subD_int {i j : Int} : subD (.int i) (.int j) = some (.int (i - j)) := rfl
@[simp] theorem ltD_int {i j : Int} : ltD (.int i) (.int j) = some (.bl (decide (i < j))) := rfl
@[simp] theorem leD_int {i j : Int} : leD (.int i) (.int j) = some (.bl (decide (i ≤ j))) := rfl
@[simp] theorem gtD_int {i j : Int} : gtD (.int i) (.int j) = some (.bl (decide (j < i))) := rfl
@[simp] theorem geD_int {i j : Int} : geD (.int i) (.int j) = some (.bl (decide (j ≤ i))) := rfl
@[simp] theorem addD_lst {a b : List D} (h : a.length + b.length ≤ 16777216) : addD (.lst a) (.lst b) = some (.lst (a ++ b)) := by unfold addD; simp only [sl_line]; rw [if_pos h]
@[simp] theorem addD_tup {a b : List D} (h : a.length + b.length ≤ 16777216) : addD (.tup a) (.tup b) = some (.tup (a ++ b)) := by unfold addD; simp only [sl_line]; rw [if_pos h]
theorem modD_int {i j : Int} (h : 0 < j) : modD (.int i) (.int j) = some (.int (i % j)) := by simp only [modD, if_pos h]
theorem fdivD_int {i j : Int} (h : 0 < j) (hj : j < 2 ^ 64) : fdivD (.int i) (.int j) = some (.int (i / j)) := by
  have hl : j.natAbs < 2 ^ 64 := by omega
  simp only [fdivD, if_pos (show CDivW i j from ⟨h, Nat.lt_of_lt_of_le ((Nat.log2_lt (by omega)).mpr hl) (by decide)⟩)]
theorem mulD_int {i j : Int} (hi : i.natAbs < 2 ^ 64) (hj : j.natAbs < 2 ^ 64) : mulD (.int i) (.int j) = some (.int (i * j)) := by
  have l : ∀ n : Nat, n < 2 ^ 64 → n.log2 < 64 := fun n h => by
    by_cases z : n = 0
    · subst z; simp
    · exact (Nat.log2_lt z).mpr h
  have h1 := l _ hi
  have h2 := l _ hj
  simp only [mulD, if_pos (show CMulW i j from by unfold CMulW; omega)]
theorem powD_int {i : Int} {j : Nat} (hi : i.natAbs < 2 ^ 64) (hj : j ≤ 1000) : powD (.int i) (.int (j : Int)) = some (.int (i ^ j)) := by
  simp only [powD, if_pos (show CPow i (j : Int) from ⟨by omega, by omega, hi⟩)]; simp
/-! == -/
@[simp] theorem eqD_str {a b : Str} : eqD (.str a) (.str b) = some (a == b) := by
  unfold eqD plainD; simp [toPy, PyData.plain, PyData.depth, PyData.eqv]
@[simp] theorem eqD_int {a b : Int} : eqD (.int a) (.int b) = some (a == b) := by
  unfold eqD plainD; simp [toPy, PyData.plain, PyData.depth, PyData.eqv]
@[simp] theorem eqD_bl {a b : Bool} : eqD (.bl a) (.bl b) = some (a == b) := by
  unfold eqD plainD; simp [toPy, PyData.plain, PyData.depth, PyData.eqv]
theorem toPys_len : ∀ xs : List D, (toPys xs).length = xs.length
  | [] => rfl
  | x :: xs => by simp [toPys, toPys_len xs]
@[simp] theorem eqD_nil {xs : List D} : eqD (.lst xs) (.lst []) = some xs.isEmpty := by
  cases xs with
  | nil => unfold eqD plainD; simp [toPy, toPys, PyData.plain, PyData.plainAll, PyData.depth, PyData.depthAll, PyData.eqv, PyData.eqvAll]
  | cons x xs =>
    unfold eqD plainD
    by_cases h : ((toPy (.lst (x :: xs))).plain && (toPy (.lst [])).plain) = true
    · rw [if_pos h]
      simp [toPy, toPys, PyData.eqv, PyData.eqvAll, PyData.depth, PyData.depthAll]
    · rw [if_neg h]; simp
@[simp] theorem eqD_dnil {xs : List (Key × D)} : eqD (.dct xs) (.dct []) = some xs.isEmpty := by
  unfold eqD plainD
  have h : ¬ ((toPy (.dct xs)).plain && (toPy (.dct [])).plain) = true := by simp [toPy, PyData.plain]
  rw [if_neg h]
  cases xs <;> simp
@[simp] theorem eqO_e {a b : D} : eqO a b = (eqD a b).map .bl := rfl
@[simp] theorem neO_e {a b : D} : neO a b = (eqD a b).map fun k => .bl (!k) := rfl
/-! ### comprehensions whose parts change nothing -/
theorem cmp_pure {t : Tgt} {W : List Nat} {ft : Ft} {fe : Fe} {ρ : Rho} {S : Sx} {g : D → Option D} : ∀ {ds : List D}, (∀ d ∈ ds, turnF t W ft fe d ρ S = .ok (g d) S) → compF t W ft fe ρ ds S = .ok (ds.filterMap g) S
  | [], _ => rfl
  | d :: ds, h => by
    rw [compF_cons, h d List.mem_cons_self, bind_ok, cmp_pure fun x hx => h x (List.mem_cons_of_mem _ hx), bind_ok]
    cases e : g d <;> simp [List.filterMap_cons, e]
theorem cmp_map {t : Tgt} {W : List Nat} {ft : Ft} {fe : Fe} {ρ : Rho} {S : Sx} {g : D → D} {ds : List D} (h : ∀ d ∈ ds, turnF t W ft fe d ρ S = .ok (some (g d)) S) : compF t W ft fe ρ ds S = .ok (ds.map g) S := by
  rw [cmp_pure h, List.filterMap_eq_map']
@[simp] theorem boolsOf_mapF {α : Type} (f : α → Bool) : ∀ xs : List α, boolsOf (xs.map fun x => .bl (f x)) = some (xs.map f)
  | [] => rfl
  | x :: xs => by
    have := boolsOf_mapF f xs
    simp [boolsOf, this]
@[simp] theorem boolsOf_mapC {α : Type} (f : α → Bool) (xs : List α) : boolsOf (xs.map (D.bl ∘ f)) = some (xs.map f) := boolsOf_mapF f xs
theorem cmp_over {α : Type} {t : Tgt} {W : List Nat} {ft : Ft} {fe : Fe} {ρ : Rho} {S : Sx} {f : α → D} {g : α → Option D} : ∀ {xs : List α}, (∀ x ∈ xs, turnF t W ft fe (f x) ρ S = .ok (g x) S) → compF t W ft fe ρ (xs.map f) S = .ok (xs.filterMap g) S
  | [], _ => rfl
  | d :: ds, h => by
    rw [List.map_cons, compF_cons, h d List.mem_cons_self, bind_ok, cmp_over fun x hx => h x (List.mem_cons_of_mem _ hx), bind_ok]
    cases e : g d <;> simp [List.filterMap_cons, e]
theorem cmp_overM {α : Type} {t : Tgt} {W : List Nat} {ft : Ft} {fe : Fe} {ρ : Rho} {S : Sx} {f : α → D} {g : α → D} {xs : List α} (h : ∀ x ∈ xs, turnF t W ft fe (f x) ρ S = .ok (some (g x)) S) : compF t W ft fe ρ (xs.map f) S = .ok (xs.map g) S := by
  rw [cmp_over h, List.filterMap_eq_map']
@[simp] theorem cast_beq (a b : Nat) : ((a : Int) == (b : Int)) = (a == b) := by
  by_cases h : a = b
  · subst h; rw [beq_self_eq_true, beq_self_eq_true]
  · have : ¬ (a : Int) = (b : Int) := by omega
    rw [beq_eq_false_iff_ne.mpr this, beq_eq_false_iff_ne.mpr h]
@[simp] theorem cast_eq (a b : Nat) : ((a : Int) = (b : Int)) ↔ a = b := by omega
@[simp] theorem allG_lst {S : Sx} {ds : List D} : allG S [.d (.lst ds)] = (boolsOf ds).map fun bs => .bl (bs.all id) := rfl
@[simp] theorem anyG_lst {S : Sx} {ds : List D} : anyG S [.d (.lst ds)] = (boolsOf ds).map fun bs => .bl (bs.any id) := rfl
@[simp] theorem lenG_lst {S : Sx} {ds : List D} : lenG S [.d (.lst ds)] = some (.int (ds.length : Nat)) := rfl
@[simp] theorem lenG_tup {S : Sx} {ds : List D} : lenG S [.d (.tup ds)] = some (.int (ds.length : Nat)) := rfl
@[simp] theorem lenG_dct {S : Sx} {ds : List (Key × D)} : lenG S [.d (.dct ds)] = some (.int (ds.length : Nat)) := rfl
@[simp] theorem lenG_str {S : Sx} {z : Str} : lenG S [.d (.str z)] = some (.int (z.length : Nat)) := rfl
@[simp] theorem items_lst {ds : List D} : itemsOf (.d (.lst ds)) = some ds := rfl
@[simp] theorem items_tup {ds : List D} : itemsOf (.d (.tup ds)) = some ds := rfl
@[simp] theorem items_str {z : Str} : itemsOf (.d (.str z)) = some (signs z) := rfl
end G
namespace Law
open PySem L2 G
open PySem.W (Frag)
def top (i : Nat) : Stmt := PySem.Challenge.pw_shapeleads_k21_whole_faults.main.body.getD i (.Pass ⟨0, 0, 0, 0⟩)
inductive Fnm where
  | is_whole | is_word | are_words | is_shape | are_parts | look_shape | is_of | is_one | is_of_kind | part_of | faults | wrong | wrong_list | wrong_kind | wrong_rec | law_cell | law_mix | law_draw | law_pick | law_word | law_words | law_shape | law_thing | law_same | law_part | law_wrong | law_plain | law_spoilt
def Fnm.nm : Fnm → Str
  | .is_whole => "is_whole"
  | .is_word => "is_word"
  | .are_words => "are_words"
  | .is_shape => "is_shape"
  | .are_parts => "are_parts"
  | .look_shape => "look_shape"
  | .is_of => "is_of"
  | .is_one => "is_one"
  | .is_of_kind => "is_of_kind"
  | .part_of => "part_of"
  | .faults => "faults"
  | .wrong => "wrong"
  | .wrong_list => "wrong_list"
  | .wrong_kind => "wrong_kind"
  | .wrong_rec => "wrong_rec"
  | .law_cell => "_law_cell"
  | .law_mix => "_law_mix"
  | .law_draw => "_law_draw"
  | .law_pick => "_law_pick"
  | .law_word => "_law_word"
  | .law_words => "_law_words"
  | .law_shape => "_law_shape"
  | .law_thing => "_law_thing"
  | .law_same => "_law_same"
  | .law_part => "_law_part"
  | .law_wrong => "_law_wrong"
  | .law_plain => "_law_plain"
  | .law_spoilt => "_law_spoilt"
def tab_SIZES : List (Str × Int) := [("number", 3), ("truth", 1), ("word", 2), ("text", 2), ("list", 3), ("rec", 2), ("kind", 2), ("maybe", 2)]
structure Facts (w : World) (K : Frag) (mg : Str → Option Value) : Prop where
  d_is_whole : At K mg (top 11) "is_whole" ["thing", "least", "most"]
  d_is_word : At K mg (top 12) "is_word" ["thing"]
  d_are_words : At K mg (top 13) "are_words" ["some", "least"]
  d_is_shape : At K mg (top 14) "is_shape" ["thing", "deep"]
  d_are_parts : At K mg (top 15) "are_parts" ["parts", "deep", "least"]
  d_look_shape : At K mg (top 16) "look_shape" ["shape"]
  d_is_of : At K mg (top 17) "is_of" ["shape", "thing"]
  d_is_one : At K mg (top 18) "is_one" ["shape", "thing"]
  d_is_of_kind : At K mg (top 19) "is_of_kind" ["shape", "thing"]
  d_part_of : At K mg (top 20) "part_of" ["shape", "name"]
  d_faults : At K mg (top 22) "faults" ["shape", "thing"]
  d_wrong : At K mg (top 23) "wrong" ["shape", "thing", "path"]
  d_wrong_list : At K mg (top 24) "wrong_list" ["shape", "thing", "path"]
  d_wrong_kind : At K mg (top 25) "wrong_kind" ["shape", "thing", "path"]
  d_wrong_rec : At K mg (top 26) "wrong_rec" ["shape", "thing", "path"]
  d_law_cell : At K mg (top 28) "_law_cell" ["script", "k"]
  d_law_mix : At K mg (top 29) "_law_mix" ["script", "k"]
  d_law_draw : At K mg (top 30) "_law_draw" ["script", "town", "many"]
  d_law_pick : At K mg (top 31) "_law_pick" ["script", "town", "some"]
  d_law_word : At K mg (top 32) "_law_word" ["script", "town"]
  d_law_words : At K mg (top 33) "_law_words" ["script", "town", "least_many"]
  d_law_shape : At K mg (top 34) "_law_shape" ["script", "town", "deep", "wide"]
  d_law_thing : At K mg (top 35) "_law_thing" ["script", "town", "shape"]
  d_law_same : At K mg (top 36) "_law_same" ["one", "other"]
  d_law_part : At K mg (top 37) "_law_part" ["shape", "name"]
  d_law_wrong : At K mg (top 38) "_law_wrong" ["shape", "thing", "path"]
  d_law_plain : At K mg (top 39) "_law_plain" ["shape", "thing", "path"]
  d_law_spoilt : At K mg (top 40) "_law_spoilt" ["script", "town", "thing"]
  c_MOST_WORD : ∃ t, mg "MOST_WORD" = some (.int 8 t)
  c_MOST_PARTS : ∃ t, mg "MOST_PARTS" = some (.int 4 t)
  c_MOST_DEEP : ∃ t, mg "MOST_DEEP" = some (.int 4 t)
  c_FAR : ∃ t, mg "FAR" = some (.int 1000000 t)
  c_SMALL : ∃ t, mg "SMALL" = some (.str "abcdefghijklmnopqrstuvwxyz" t)
  c_LETTERS : ∃ t, mg "LETTERS" = some (.str "abc" t)
  t_SIZES : Tabl K w (He.ga K "SIZES") tab_SIZES ∧ mg "SIZES" = some (.ref (He.ga K "SIZES"))
  x_BadShape : ExcOk K mg "BadShape"
  n_all : mg "all" = none
  n_any : mg "any" = none
  n_bool : mg "bool" = none
  n_dict : mg "dict" = none
  n_int : mg "int" = none
  n_isinstance : mg "isinstance" = none
  n_len : mg "len" = none
  n_list : mg "list" = none
  n_range : mg "range" = none
  n_set : mg "set" = none
  n_sorted : mg "sorted" = none
  n_str : mg "str" = none
  n_tuple : mg "tuple" = none
noncomputable def m_is_whole (s : Str → Fn) : Fs := sRet (eAndF (eIsi .int (eVar 0)) (eAndF (eNotF (eIsi .bool (eVar 0))) (eChain leD leD (eVar 1) (eVar 0) (eVar 2))))
noncomputable def m_is_word (s : Str → Fn) : Fs := sRet (eAndF (eIsi .str (eVar 0)) (eAndF (eChain leD leD (eC (.int 1)) (eCall lenG (aCons (eVar 0) (aNil))) (eC (.int 8))) (eCall allG (aCons (dA (eComp (iSeq (eVar 0)) (.n 1) [1] (tYesF) (eOp inD (eVar 1) (eC (.str "abcdefghijklmnopqrstuvwxyz"))))) (aNil)))))
noncomputable def m_are_words (s : Str → Fn) : Fs := sRet (eAndF (eChain leD leD (eVar 1) (eCall lenG (aCons (eVar 0) (aNil))) (eC (.int 4))) (eAndF (eCall allG (aCons (dA (eComp (iSeq (eVar 0)) (.n 2) [2] (tYesF) (eOwn (s "is_word") (aCons (eVar 2) (aNil))))) (aNil))) (eOp eqO (eLenSet (eVar 0)) (eCall lenG (aCons (eVar 0) (aNil))))))
noncomputable def m_is_shape (s : Str → Fn) : Fs := sSeq (sIf (tOrF (tNotF (tst (eIsi .tuple (eVar 0)))) (tOrF (tst (eOp eqO (eCall lenG (aCons (eVar 0) (aNil))) (eC (.int 0)))) (tOrF (tst (eOp eqO (eVar 1) (eC (.int 0)))) (tNotF (tst (eIsi .str (eIx (eVar 0) (eC (.int 0))))))))) (sRet (eC (.bl false))) (sNil)) (sSeq (sIf (tst (eOp neO (eCall lenG (aCons (eVar 0) (aNil))) (eTab tab_SIZES (eIx (eVar 0) (eC (.int 0))) 0))) (sRet (eC (.bl false))) (sNil)) (sSeq (sIf (tst (eOp eqO (eIx (eVar 0) (eC (.int 0))) (eC (.str "truth")))) (sRet (eC (.bl true))) (sNil)) (sSeq (sIf (tst (eOp eqO (eIx (eVar 0) (eC (.int 0))) (eC (.str "number")))) (sRet (eAndF (eOwn (s "is_whole") (aCons (eIx (eVar 0) (eC (.int 1))) (aCons (eOp subD (eC (.int 0)) (eC (.int 1000000))) (aCons (eC (.int 1000000)) (aNil))))) (eOwn (s "is_whole") (aCons (eIx (eVar 0) (eC (.int 2))) (aCons (eIx (eVar 0) (eC (.int 1))) (aCons (eC (.int 1000000)) (aNil))))))) (sNil)) (sSeq (sIf (tst (eOp eqO (eIx (eVar 0) (eC (.int 0))) (eC (.str "text")))) (sRet (eOwn (s "is_whole") (aCons (eIx (eVar 0) (eC (.int 1))) (aCons (eC (.int 0)) (aCons (eC (.int 4)) (aNil)))))) (sNil)) (sSeq (sIf (tst (eOp eqO (eIx (eVar 0) (eC (.int 0))) (eC (.str "list")))) (sRet (eAndF (eOwn (s "is_shape") (aCons (eIx (eVar 0) (eC (.int 1))) (aCons (eOp subD (eVar 1) (eC (.int 1))) (aNil)))) (eOwn (s "is_whole") (aCons (eIx (eVar 0) (eC (.int 2))) (aCons (eC (.int 0)) (aCons (eC (.int 4)) (aNil))))))) (sNil)) (sSeq (sIf (tst (eOp eqO (eIx (eVar 0) (eC (.int 0))) (eC (.str "maybe")))) (sRet (eAndF (eOwn (s "is_shape") (aCons (eIx (eVar 0) (eC (.int 1))) (aCons (eOp subD (eVar 1) (eC (.int 1))) (aNil)))) (eOp neO (eIx (eIx (eVar 0) (eC (.int 1))) (eC (.int 0))) (eC (.str "maybe"))))) (sNil)) (sSeq (sIf (tNotF (tst (eIsi .tuple (eIx (eVar 0) (eC (.int 1)))))) (sRet (eC (.bl false))) (sNil)) (sRet (eIf (tst (eOp eqO (eIx (eVar 0) (eC (.int 0))) (eC (.str "word")))) (eOwn (s "are_words") (aCons (eIx (eVar 0) (eC (.int 1))) (aCons (eC (.int 1)) (aNil)))) (eOwn (s "are_parts") (aCons (eIx (eVar 0) (eC (.int 1))) (aCons (eVar 1) (aCons (eCall intG (aCons (eOp eqO (eIx (eVar 0) (eC (.int 0))) (eC (.str "kind"))) (aNil))) (aNil))))))))))))))
noncomputable def m_are_parts (s : Str → Fn) : Fs := sSeq (sIf (tNotF (tst (eCall allG (aCons (dA (eComp (iSeq (eVar 0)) (.n 3) [3] (tYesF) (eAndF (eIsi .tuple (eVar 3)) (eOp eqO (eCall lenG (aCons (eVar 3) (aNil))) (eC (.int 2)))))) (aNil))))) (sRet (eC (.bl false))) (sNil)) (sSeq (sIf (tOrF (tNotF (tst (eCall allG (aCons (dA (eComp (iSeq (eVar 0)) (.n 3) [3] (tYesF) (eOwn (s "is_word") (aCons (eIx (eVar 3) (eC (.int 0))) (aNil))))) (aNil))))) (tNotF (tst (eOwn (s "are_words") (aCons (dA (eComp (iSeq (eVar 0)) (.n 3) [3] (tYesF) (eIx (eVar 3) (eC (.int 0))))) (aCons (eVar 2) (aNil))))))) (sRet (eC (.bl false))) (sNil)) (sRet (eCall allG (aCons (dA (eComp (iSeq (eVar 0)) (.n 3) [3] (tYesF) (eOwn (s "is_shape") (aCons (eIx (eVar 3) (eC (.int 1))) (aCons (eOp subD (eVar 1) (eC (.int 1))) (aNil)))))) (aNil)))))
noncomputable def m_look_shape (s : Str → Fn) : Fs := sIf (tNotF (tst (eOwn (s "is_shape") (aCons (eVar 0) (aCons (eC (.int 4)) (aNil)))))) (sRaise "BadShape") (sNil)
noncomputable def m_is_of (s : Str → Fn) : Fs := sSeq (sExpr (eOwn (s "look_shape") (aCons (eVar 0) (aNil)))) (sRet (eOwn (s "is_one") (aCons (eVar 0) (aCons (eVar 1) (aNil)))))
noncomputable def m_is_one (s : Str → Fn) : Fs := sSeq (sAsg 2 (eIx (eVar 0) (eC (.int 0)))) (sSeq (sIf (tst (eOp eqO (eVar 2) (eC (.str "maybe")))) (sRet (eOrF (eIsN (eVar 1)) (eOwn (s "is_one") (aCons (eIx (eVar 0) (eC (.int 1))) (aCons (eVar 1) (aNil)))))) (sNil)) (sSeq (sIf (tst (eOp eqO (eVar 2) (eC (.str "number")))) (sRet (eOwn (s "is_whole") (aCons (eVar 1) (aCons (eIx (eVar 0) (eC (.int 1))) (aCons (eIx (eVar 0) (eC (.int 2))) (aNil)))))) (sNil)) (sSeq (sIf (tst (eOp eqO (eVar 2) (eC (.str "truth")))) (sRet (eIsi .bool (eVar 1))) (sNil)) (sSeq (sIf (tst (eOp eqO (eVar 2) (eC (.str "word")))) (sRet (eAndF (eIsi .str (eVar 1)) (eOp inD (eVar 1) (eIx (eVar 0) (eC (.int 1)))))) (sNil)) (sSeq (sIf (tst (eOp eqO (eVar 2) (eC (.str "text")))) (sRet (eAndF (eIsi .str (eVar 1)) (eAndF (eOp leD (eCall lenG (aCons (eVar 1) (aNil))) (eIx (eVar 0) (eC (.int 1)))) (eCall allG (aCons (dA (eComp (iSeq (eVar 1)) (.n 5) [5] (tYesF) (eOp inD (eVar 5) (eC (.str "abc"))))) (aNil)))))) (sNil)) (sSeq (sIf (tst (eOp eqO (eVar 2) (eC (.str "list")))) (sRet (eAndF (eIsi .list (eVar 1)) (eAndF (eOp leD (eCall lenG (aCons (eVar 1) (aNil))) (eIx (eVar 0) (eC (.int 2)))) (eCall allG (aCons (dA (eComp (iSeq (eVar 1)) (.n 6) [6] (tYesF) (eOwn (s "is_one") (aCons (eIx (eVar 0) (eC (.int 1))) (aCons (eVar 6) (aNil)))))) (aNil)))))) (sNil)) (sSeq (sIf (tst (eOp eqO (eVar 2) (eC (.str "kind")))) (sRet (eAndF (eIsi .tuple (eVar 1)) (eAndF (eOp eqO (eCall lenG (aCons (eVar 1) (aNil))) (eC (.int 2))) (eOwn (s "is_of_kind") (aCons (eVar 0) (aCons (eVar 1) (aNil))))))) (sNil)) (sSeq (sIf (tOrF (tNotF (tst (eIsi .dict (eVar 1)))) (tst (eOp neO (eCall lenG (aCons (eVar 1) (aNil))) (eCall lenG (aCons (eIx (eVar 0) (eC (.int 1))) (aNil)))))) (sRet (eC (.bl false))) (sNil)) (sRet (eCall allG (aCons (dA (eComp (iSeq (eIx (eVar 0) (eC (.int 1)))) (.t [3, 4]) [3, 4] (tYesF) (eAndF (eOp inD (eVar 3) (eVar 1)) (eOwn (s "is_one") (aCons (eVar 4) (aCons (eIx (eVar 1) (eVar 3)) (aNil))))))) (aNil))))))))))))
noncomputable def m_is_of_kind (s : Str → Fn) : Fs := sRet (eCall anyG (aCons (dA (eComp (iSeq (eIx (eVar 0) (eC (.int 1)))) (.t [2, 3]) [2, 3] (tYesF) (eAndF (eIsi .str (eIx (eVar 1) (eC (.int 0)))) (eAndF (eOp eqO (eIx (eVar 1) (eC (.int 0))) (eVar 2)) (eOwn (s "is_one") (aCons (eVar 3) (aCons (eIx (eVar 1) (eC (.int 1))) (aNil)))))))) (aNil)))
noncomputable def m_part_of (s : Str → Fn) : Fs := sSeq (sAsg 2 (dA (eComp (iSeq (eIx (eVar 0) (eC (.int 1)))) (.t [3, 4]) [3, 4] (tst (eOp eqO (eVar 3) (eVar 1))) (eVar 4)))) (sRet (eIf (tTru (eVar 2)) (eIx (eVar 2) (eC (.int 0))) (eC .non)))
noncomputable def m_faults (s : Str → Fn) : Fs := sSeq (sExpr (eOwn (s "look_shape") (aCons (eVar 0) (aNil)))) (sRet (eOwn (s "wrong") (aCons (eVar 0) (aCons (eVar 1) (aCons (eTup (aNil)) (aNil))))))
noncomputable def m_wrong (s : Str → Fn) : Fs := sSeq (sAsg 3 (eIx (eVar 0) (eC (.int 0)))) (sSeq (sIf (tst (eOp eqO (eVar 3) (eC (.str "maybe")))) (sRet (eIf (tst (eIsN (eVar 1))) (eLst (aNil)) (eOwn (s "wrong") (aCons (eIx (eVar 0) (eC (.int 1))) (aCons (eVar 1) (aCons (eVar 2) (aNil))))))) (sNil)) (sSeq (sIf (tst (eOp eqO (eVar 3) (eC (.str "number")))) (sSeq (sIf (tOrF (tNotF (tst (eIsi .int (eVar 1)))) (tst (eIsi .bool (eVar 1)))) (sRet (eLst (aCons (eTup (aCons (eVar 2) (aCons (eC (.str "number")) (aNil)))) (aNil)))) (sNil)) (sRet (eIf (tst (eOp ltD (eVar 1) (eIx (eVar 0) (eC (.int 1))))) (eLst (aCons (eTup (aCons (eVar 2) (aCons (eC (.str "small")) (aNil)))) (aNil))) (eIf (tst (eOp gtD (eVar 1) (eIx (eVar 0) (eC (.int 2))))) (eLst (aCons (eTup (aCons (eVar 2) (aCons (eC (.str "great")) (aNil)))) (aNil))) (eLst (aNil)))))) (sNil)) (sSeq (sIf (tst (eOp inD (eVar 3) (eTup (aCons (eC (.str "truth")) (aCons (eC (.str "word")) (aNil)))))) (sRet (eIf (tst (eOwn (s "is_one") (aCons (eVar 0) (aCons (eVar 1) (aNil))))) (eLst (aNil)) (eLst (aCons (eTup (aCons (eVar 2) (aCons (eVar 3) (aNil)))) (aNil))))) (sNil)) (sSeq (sIf (tst (eOp eqO (eVar 3) (eC (.str "text")))) (sSeq (sIf (tOrF (tNotF (tst (eIsi .str (eVar 1)))) (tNotF (tst (eCall allG (aCons (dA (eComp (iSeq (eVar 1)) (.n 4) [4] (tYesF) (eOp inD (eVar 4) (eC (.str "abc"))))) (aNil)))))) (sRet (eLst (aCons (eTup (aCons (eVar 2) (aCons (eC (.str "text")) (aNil)))) (aNil)))) (sNil)) (sRet (eIf (tst (eOp gtD (eCall lenG (aCons (eVar 1) (aNil))) (eIx (eVar 0) (eC (.int 1))))) (eLst (aCons (eTup (aCons (eVar 2) (aCons (eC (.str "long")) (aNil)))) (aNil))) (eLst (aNil))))) (sNil)) (sSeq (sIf (tst (eOp eqO (eVar 3) (eC (.str "list")))) (sRet (eOwn (s "wrong_list") (aCons (eVar 0) (aCons (eVar 1) (aCons (eVar 2) (aNil)))))) (sNil)) (sRet (eIf (tst (eOp eqO (eVar 3) (eC (.str "kind")))) (eOwn (s "wrong_kind") (aCons (eVar 0) (aCons (eVar 1) (aCons (eVar 2) (aNil))))) (eOwn (s "wrong_rec") (aCons (eVar 0) (aCons (eVar 1) (aCons (eVar 2) (aNil))))))))))))
noncomputable def m_wrong_list (s : Str → Fn) : Fs := sSeq (sIf (tNotF (tst (eIsi .list (eVar 1)))) (sRet (eLst (aCons (eTup (aCons (eVar 2) (aCons (eC (.str "list")) (aNil)))) (aNil)))) (sNil)) (sSeq (sAsgN 3 (nIf (tst (eOp gtD (eCall lenG (aCons (eVar 1) (aNil))) (eIx (eVar 0) (eC (.int 2))))) (nLst (aCons (eTup (aCons (eVar 2) (aCons (eC (.str "long")) (aNil)))) (aNil))) (nLst (aNil)))) (sSeq (sFor (iRng1 (eCall lenG (aCons (eVar 1) (aNil)))) (.n 4) (sExt 3 (eOwn (s "wrong") (aCons (eIx (eVar 0) (eC (.int 1))) (aCons (eIx (eVar 1) (eVar 4)) (aCons (eOp addD (eVar 2) (eTup (aCons (eVar 4) (aNil)))) (aNil))))))) (sRet (eVar 3))))
noncomputable def m_wrong_kind (s : Str → Fn) : Fs := sSeq (sIf (tOrF (tNotF (tst (eIsi .tuple (eVar 1)))) (tOrF (tst (eOp neO (eCall lenG (aCons (eVar 1) (aNil))) (eC (.int 2)))) (tNotF (tst (eIsi .str (eIx (eVar 1) (eC (.int 0)))))))) (sRet (eLst (aCons (eTup (aCons (eVar 2) (aCons (eC (.str "kind")) (aNil)))) (aNil)))) (sNil)) (sSeq (sAsg 3 (eOwn (s "part_of") (aCons (eVar 0) (aCons (eIx (eVar 1) (eC (.int 0))) (aNil))))) (sRet (eIf (tst (eIsN (eVar 3))) (eLst (aCons (eTup (aCons (eVar 2) (aCons (eC (.str "kind")) (aNil)))) (aNil))) (eOwn (s "wrong") (aCons (eVar 3) (aCons (eIx (eVar 1) (eC (.int 1))) (aCons (eOp addD (eVar 2) (eTup (aCons (eIx (eVar 1) (eC (.int 0))) (aNil)))) (aNil))))))))
noncomputable def m_wrong_rec (s : Str → Fn) : Fs := sSeq (sIf (tOrF (tNotF (tst (eIsi .dict (eVar 1)))) (tNotF (tst (eCall allG (aCons (dA (eComp (iKeyV 1) (.n 5) [5] (tYesF) (eIsi .str (eVar 5)))) (aNil)))))) (sRet (eLst (aCons (eTup (aCons (eVar 2) (aCons (eC (.str "rec")) (aNil)))) (aNil)))) (sNil)) (sSeq (sAsgN 3 (nLst (aNil))) (sSeq (sFor (iSeq (eIx (eVar 0) (eC (.int 1)))) (.t [5, 6]) (sIf (tst (eOp inD (eVar 5) (eVar 1))) (sExt 3 (eOwn (s "wrong") (aCons (eVar 6) (aCons (eIx (eVar 1) (eVar 5)) (aCons (eOp addD (eVar 2) (eTup (aCons (eVar 5) (aNil)))) (aNil)))))) (sApp 3 (eTup (aCons (eOp addD (eVar 2) (eTup (aCons (eVar 5) (aNil)))) (aCons (eC (.str "lacking")) (aNil))))))) (sSeq (sAsg 4 (dA (eComp (iSeq (eIx (eVar 0) (eC (.int 1)))) (.t [5, 6]) [5, 6] (tYesF) (eVar 5)))) (sSeq (sExt 3 (dA (eComp (iSeq (eSortKeys (eVar 1))) (.n 5) [5] (tst (eOp notInD (eVar 5) (eVar 4))) (eTup (aCons (eOp addD (eVar 2) (eTup (aCons (eVar 5) (aNil)))) (aCons (eC (.str "unknown")) (aNil))))))) (sRet (eVar 3))))))
noncomputable def m_law_cell (s : Str → Fn) : Fs := sSeq (sIf (tTru (eVar 0)) (sRet (eIx (eVar 0) (eOp modD (eVar 1) (eCall lenG (aCons (eVar 0) (aNil)))))) (sNil)) (sRet (eC (.int 0)))
noncomputable def m_law_mix (s : Str → Fn) : Fs := sSeq (sAsg 2 (eOp modD (eOp addD (eOwn (s "_law_cell") (aCons (eVar 0) (aCons (eVar 1) (aNil)))) (eOp mulD (eC (.int 104729)) (eOp addD (eVar 1) (eC (.int 1))))) (eC (.int 4294967291)))) (sSeq (sAsg 2 (eOp modD (eOp powD (eVar 2) (eC (.int 5))) (eC (.int 4294967279)))) (sRet (eOp modD (eOp addD (eOp mulD (eOp fdivD (eVar 2) (eC (.int 64))) (eC (.int 69621))) (eVar 2)) (eC (.int 4294967231)))))
noncomputable def m_law_draw (s : Str → Fn) : Fs := sSeq (sTown 1) (sRet (eOp modD (eOp fdivD (eOwn (s "_law_mix") (aCons (eVar 0) (aCons (eCall lenG (aCons (eVar 1) (aNil))) (aNil)))) (eC (.int 8))) (eVar 2)))
noncomputable def m_law_pick (s : Str → Fn) : Fs := sRet (eIx (eVar 2) (eOwn (s "_law_draw") (aCons (eVar 0) (aCons (eVar 1) (aCons (eCall lenG (aCons (eVar 2) (aNil))) (aNil))))))
noncomputable def m_law_word (s : Str → Fn) : Fs := sSeq (sAsg 2 (eC (.str "abcdefghijklmnopqrstuvwxyz"))) (sSeq (sIf (tst (eOp gtD (eOwn (s "_law_draw") (aCons (eVar 0) (aCons (eVar 1) (aCons (eC (.int 6)) (aNil))))) (eC (.int 0)))) (sRet (eOwn (s "_law_pick") (aCons (eVar 0) (aCons (eVar 1) (aCons (eLst (aCons (eC (.str "a")) (aCons (eC (.str "b")) (aCons (eC (.str "c")) (aCons (eC (.str "ab")) (aCons (eC (.str "name")) (aCons (eC (.str "size")) (aNil)))))))) (aNil)))))) (sNil)) (sRet (eJoin (eC (.str "")) (dA (eComp (iRng1 (eOp addD (eC (.int 1)) (eOwn (s "_law_draw") (aCons (eVar 0) (aCons (eVar 1) (aCons (eC (.int 8)) (aNil))))))) (.n 3) [3] (tYesF) (eIx (eVar 2) (eOwn (s "_law_draw") (aCons (eVar 0) (aCons (eVar 1) (aCons (eC (.int 26)) (aNil)))))))))))
noncomputable def m_law_words (s : Str → Fn) : Fs := sSeq (sAsgN 3 (nC (.dct []))) (sSeq (sFor (iRng1 (eOp addD (eVar 2) (eOwn (s "_law_draw") (aCons (eVar 0) (aCons (eVar 1) (aCons (eC (.int 5)) (aNil))))))) (.n 4) (sPut 3 (eOwn (s "_law_word") (aCons (eVar 0) (aCons (eVar 1) (aNil)))) (eC (.bl true)))) (sRet (eSl (eKeys (eVar 3)) oNone (oSome (eC (.int 4))))))
noncomputable def m_law_shape (s : Str → Fn) : Fs := sSeq (sAsg 4 (eOwn (s "_law_draw") (aCons (eVar 0) (aCons (eVar 1) (aCons (eIf (tst (eOp gtD (eVar 2) (eC (.int 1)))) (eC (.int 9)) (eC (.int 4))) (aNil)))))) (sSeq (sIf (tst (eOp eqO (eVar 4) (eC (.int 0)))) (sSeq (sAsg 7 (eOwn (s "_law_pick") (aCons (eVar 0) (aCons (eVar 1) (aCons (eLst (aCons (eC (.int 0)) (aCons (eC (.int 1)) (aCons (eOp subD (eC (.int 0)) (eC (.int 2))) (aCons (eIf (tTru (eVar 3)) (eOp subD (eC (.int 0)) (eC (.int 1000000))) (eOp subD (eC (.int 0)) (eC (.int 1)))) (aNil)))))) (aNil)))))) (sRet (eTup (aCons (eC (.str "number")) (aCons (eVar 7) (aCons (eOp addD (eVar 7) (eOwn (s "_law_pick") (aCons (eVar 0) (aCons (eVar 1) (aCons (eLst (aCons (eC (.int 0)) (aCons (eC (.int 1)) (aCons (eC (.int 2)) (aCons (eIf (tTru (eVar 3)) (eC (.int 1000)) (eC (.int 3))) (aNil)))))) (aNil)))))) (aNil))))))) (sNil)) (sSeq (sIf (tst (eOp eqO (eVar 4) (eC (.int 1)))) (sRet (eTup (aCons (eC (.str "truth")) (aNil)))) (sNil)) (sSeq (sIf (tst (eOp eqO (eVar 4) (eC (.int 2)))) (sRet (eTup (aCons (eC (.str "word")) (aCons (eCall tupleG (aCons (eOwn (s "_law_words") (aCons (eVar 0) (aCons (eVar 1) (aCons (eC (.int 1)) (aNil))))) (aNil))) (aNil))))) (sNil)) (sSeq (sIf (tst (eOp eqO (eVar 4) (eC (.int 3)))) (sRet (eTup (aCons (eC (.str "text")) (aCons (eOwn (s "_law_draw") (aCons (eVar 0) (aCons (eVar 1) (aCons (eIf (tTru (eVar 3)) (eC (.int 5)) (eC (.int 2))) (aNil))))) (aNil))))) (sNil)) (sSeq (sIf (tst (eOp eqO (eVar 4) (eC (.int 4)))) (sRet (eTup (aCons (eC (.str "list")) (aCons (eOwn (s "_law_shape") (aCons (eVar 0) (aCons (eVar 1) (aCons (eOp subD (eVar 2) (eC (.int 1))) (aCons (eVar 3) (aNil)))))) (aCons (eOwn (s "_law_draw") (aCons (eVar 0) (aCons (eVar 1) (aCons (eIf (tTru (eVar 3)) (eC (.int 5)) (eC (.int 3))) (aNil))))) (aNil)))))) (sNil)) (sSeq (sIf (tst (eOp eqO (eVar 4) (eC (.int 5)))) (sSeq (sAsg 8 (eOwn (s "_law_shape") (aCons (eVar 0) (aCons (eVar 1) (aCons (eOp subD (eVar 2) (eC (.int 1))) (aCons (eVar 3) (aNil))))))) (sRet (eIf (tst (eOp eqO (eIx (eVar 8) (eC (.int 0))) (eC (.str "maybe")))) (eVar 8) (eTup (aCons (eC (.str "maybe")) (aCons (eVar 8) (aNil))))))) (sNil)) (sSeq (sAsg 5 (eOwn (s "_law_words") (aCons (eVar 0) (aCons (eVar 1) (aCons (eCall intG (aCons (eOp gtD (eVar 4) (eC (.int 7))) (aNil))) (aNil)))))) (sSeq (sAsg 6 (eCall tupleG (aCons (dA (eComp (iSeq (eVar 5)) (.n 9) [9] (tYesF) (eTup (aCons (eVar 9) (aCons (eOwn (s "_law_shape") (aCons (eVar 0) (aCons (eVar 1) (aCons (eOp subD (eVar 2) (eC (.int 1))) (aCons (eVar 3) (aNil)))))) (aNil)))))) (aNil)))) (sRet (eIf (tst (eOp gtD (eVar 4) (eC (.int 7)))) (eTup (aCons (eC (.str "kind")) (aCons (eVar 6) (aNil)))) (eTup (aCons (eC (.str "rec")) (aCons (eVar 6) (aNil))))))))))))))
noncomputable def m_law_thing (s : Str → Fn) : Fs := sSeq (sAsg 3 (eIx (eVar 2) (eC (.int 0)))) (sSeq (sIf (tst (eOp eqO (eVar 3) (eC (.str "number")))) (sSeq (sAsg 5 (eOp addD (eIx (eVar 2) (eC (.int 1))) (eOwn (s "_law_draw") (aCons (eVar 0) (aCons (eVar 1) (aCons (eOp addD (eOp subD (eIx (eVar 2) (eC (.int 2))) (eIx (eVar 2) (eC (.int 1)))) (eC (.int 1))) (aNil))))))) (sRet (eOwn (s "_law_pick") (aCons (eVar 0) (aCons (eVar 1) (aCons (eLst (aCons (eIx (eVar 2) (eC (.int 1))) (aCons (eIx (eVar 2) (eC (.int 2))) (aCons (eVar 5) (aNil))))) (aNil))))))) (sNil)) (sSeq (sIf (tst (eOp eqO (eVar 3) (eC (.str "truth")))) (sRet (eOp eqO (eOwn (s "_law_draw") (aCons (eVar 0) (aCons (eVar 1) (aCons (eC (.int 2)) (aNil))))) (eC (.int 0)))) (sNil)) (sSeq (sIf (tst (eOp eqO (eVar 3) (eC (.str "word")))) (sRet (eOwn (s "_law_pick") (aCons (eVar 0) (aCons (eVar 1) (aCons (eIx (eVar 2) (eC (.int 1))) (aNil)))))) (sNil)) (sSeq (sIf (tst (eOp eqO (eVar 3) (eC (.str "text")))) (sRet (eJoin (eC (.str "")) (dA (eComp (iRng1 (eOwn (s "_law_draw") (aCons (eVar 0) (aCons (eVar 1) (aCons (eOp addD (eIx (eVar 2) (eC (.int 1))) (eC (.int 1))) (aNil)))))) (.n 9) [9] (tYesF) (eOwn (s "_law_pick") (aCons (eVar 0) (aCons (eVar 1) (aCons (eC (.str "abc")) (aNil))))))))) (sNil)) (sSeq (sIf (tst (eOp eqO (eVar 3) (eC (.str "list")))) (sRet (dA (eComp (iRng1 (eOwn (s "_law_draw") (aCons (eVar 0) (aCons (eVar 1) (aCons (eOp addD (eIx (eVar 2) (eC (.int 2))) (eC (.int 1))) (aNil)))))) (.n 9) [9] (tYesF) (eOwn (s "_law_thing") (aCons (eVar 0) (aCons (eVar 1) (aCons (eIx (eVar 2) (eC (.int 1))) (aNil)))))))) (sNil)) (sSeq (sIf (tst (eOp eqO (eVar 3) (eC (.str "maybe")))) (sSeq (sAsg 6 (eOp eqO (eOwn (s "_law_draw") (aCons (eVar 0) (aCons (eVar 1) (aCons (eC (.int 3)) (aNil))))) (eC (.int 0)))) (sRet (eIf (tTru (eVar 6)) (eC .non) (eOwn (s "_law_thing") (aCons (eVar 0) (aCons (eVar 1) (aCons (eIx (eVar 2) (eC (.int 1))) (aNil)))))))) (sNil)) (sSeq (sIf (tst (eOp eqO (eVar 3) (eC (.str "kind")))) (sSeq (sUn (.t [7, 8]) (eOwn (s "_law_pick") (aCons (eVar 0) (aCons (eVar 1) (aCons (eIx (eVar 2) (eC (.int 1))) (aNil)))))) (sRet (eTup (aCons (eVar 7) (aCons (eOwn (s "_law_thing") (aCons (eVar 0) (aCons (eVar 1) (aCons (eVar 8) (aNil))))) (aNil)))))) (sNil)) (sSeq (sAsgN 4 (nC (.dct []))) (sSeq (sFor (iSeq (eIx (eVar 2) (eC (.int 1)))) (.t [7, 8]) (sPut 4 (eVar 7) (eOwn (s "_law_thing") (aCons (eVar 0) (aCons (eVar 1) (aCons (eVar 8) (aNil))))))) (sRet (eVar 4)))))))))))
noncomputable def m_law_same (s : Str → Fn) : Fs := sSeq (sIf (tAndF (tst (eIsi .dict (eVar 0))) (tst (eIsi .dict (eVar 1)))) (sSeq (sIf (tst (eOp neO (eSortKeys (eVar 0)) (eSortKeys (eVar 1)))) (sRet (eC (.bl false))) (sNil)) (sRet (eOp eqO (eCall lenG (aCons (dA (eComp (iSeq (eKeys (eVar 0))) (.n 2) [2] (tNotF (tst (eOwn (s "_law_same") (aCons (eIx (eVar 0) (eVar 2)) (aCons (eIx (eVar 1) (eVar 2)) (aNil)))))) (eVar 2))) (aNil))) (eC (.int 0))))) (sNil)) (sSeq (sIf (tOrF (tAndF (tst (eIsi .list (eVar 0))) (tst (eIsi .list (eVar 1)))) (tAndF (tst (eIsi .tuple (eVar 0))) (tst (eIsi .tuple (eVar 1))))) (sRet (eAndF (eOp eqO (eCall lenG (aCons (eVar 0) (aNil))) (eCall lenG (aCons (eVar 1) (aNil)))) (eCall allG (aCons (dA (eComp (iRng1 (eCall lenG (aCons (eVar 0) (aNil)))) (.n 3) [3] (tYesF) (eOwn (s "_law_same") (aCons (eIx (eVar 0) (eVar 3)) (aCons (eIx (eVar 1) (eVar 3)) (aNil)))))) (aNil))))) (sNil)) (sRet (eAndF (eOp eqO (eVar 0) (eVar 1)) (eOp eqO (eIsi .bool (eVar 0)) (eIsi .bool (eVar 1))))))
noncomputable def m_law_part (s : Str → Fn) : Fs := sSeq (sAsg 2 (dA (eComp (iSeq (eIx (eVar 0) (eC (.int 1)))) (.t [3, 4]) [3, 4] (tst (eOwn (s "_law_same") (aCons (eVar 3) (aCons (eVar 1) (aNil))))) (eVar 4)))) (sRet (eIf (tst (eOp neO (eVar 2) (eLst (aNil)))) (eIx (eVar 2) (eC (.int 0))) (eC .non)))
noncomputable def m_law_wrong (s : Str → Fn) : Fs := sSeq (sAsg 3 (eIx (eVar 0) (eC (.int 0)))) (sSeq (sIf (tst (eOp eqO (eVar 3) (eC (.str "maybe")))) (sRet (eIf (tst (eNotN (eVar 1))) (eOwn (s "_law_wrong") (aCons (eIx (eVar 0) (eC (.int 1))) (aCons (eVar 1) (aCons (eVar 2) (aNil))))) (eLst (aNil)))) (sNil)) (sSeq (sIf (tst (eOp eqO (eVar 3) (eC (.str "list")))) (sSeq (sIf (tNotF (tst (eIsi .list (eVar 1)))) (sRet (eLst (aCons (eTup (aCons (eVar 2) (aCons (eC (.str "list")) (aNil)))) (aNil)))) (sNil)) (sSeq (sAsg 4 (eOp mulD (eLst (aCons (eTup (aCons (eVar 2) (aCons (eC (.str "long")) (aNil)))) (aNil))) (eCall intG (aCons (eOp gtD (eCall lenG (aCons (eVar 1) (aNil))) (eIx (eVar 0) (eC (.int 2)))) (aNil))))) (sSeq (sFor (iRng1 (eCall lenG (aCons (eVar 1) (aNil)))) (.n 5) (sAsg 4 (eOp addD (eVar 4) (eOwn (s "_law_wrong") (aCons (eIx (eVar 0) (eC (.int 1))) (aCons (eIx (eVar 1) (eVar 5)) (aCons (eOp addD (eVar 2) (eTup (aCons (eVar 5) (aNil)))) (aNil)))))))) (sRet (eVar 4))))) (sNil)) (sSeq (sIf (tst (eOp eqO (eVar 3) (eC (.str "kind")))) (sSeq (sIf (tOrF (tNotF (tst (eIsi .tuple (eVar 1)))) (tOrF (tst (eOp neO (eCall lenG (aCons (eVar 1) (aNil))) (eC (.int 2)))) (tst (eIsN (eOwn (s "_law_part") (aCons (eVar 0) (aCons (eIx (eVar 1) (eC (.int 0))) (aNil)))))))) (sRet (eLst (aCons (eTup (aCons (eVar 2) (aCons (eC (.str "kind")) (aNil)))) (aNil)))) (sNil)) (sRet (eOwn (s "_law_wrong") (aCons (eOwn (s "_law_part") (aCons (eVar 0) (aCons (eIx (eVar 1) (eC (.int 0))) (aNil)))) (aCons (eIx (eVar 1) (eC (.int 1))) (aCons (eOp addD (eVar 2) (eTup (aCons (eIx (eVar 1) (eC (.int 0))) (aNil)))) (aNil))))))) (sNil)) (sSeq (sIf (tst (eOp eqO (eVar 3) (eC (.str "rec")))) (sSeq (sIf (tNotF (tst (eIsi .dict (eVar 1)))) (sRet (eLst (aCons (eTup (aCons (eVar 2) (aCons (eC (.str "rec")) (aNil)))) (aNil)))) (sNil)) (sSeq (sIf (tst (eOp neO (dA (eComp (iSeq (eKeys (eVar 1))) (.n 7) [7] (tNotF (tst (eIsi .str (eVar 7)))) (eVar 7))) (eLst (aNil)))) (sRet (eLst (aCons (eTup (aCons (eVar 2) (aCons (eC (.str "rec")) (aNil)))) (aNil)))) (sNil)) (sSeq (sAsgN 4 (nLst (aNil))) (sSeq (sFor (iSeq (eIx (eVar 0) (eC (.int 1)))) (.t [7, 8]) (sIf (tst (eOp inD (eVar 7) (eVar 1))) (sAsgN 4 (nCat (eVar 4) (eOwn (s "_law_wrong") (aCons (eVar 8) (aCons (eIx (eVar 1) (eVar 7)) (aCons (eOp addD (eVar 2) (eTup (aCons (eVar 7) (aNil)))) (aNil))))))) (sApp 4 (eTup (aCons (eOp addD (eVar 2) (eTup (aCons (eVar 7) (aNil)))) (aCons (eC (.str "lacking")) (aNil))))))) (sSeq (sAsg 6 (dA (eComp (iSeq (eIx (eVar 0) (eC (.int 1)))) (.t [7, 8]) [7, 8] (tYesF) (eVar 7)))) (sRet (eOp addD (eVar 4) (dA (eComp (iSeq (eSortKeys (eVar 1))) (.n 7) [7] (tst (eOp notInD (eVar 7) (eVar 6))) (eTup (aCons (eOp addD (eVar 2) (eTup (aCons (eVar 7) (aNil)))) (aCons (eC (.str "unknown")) (aNil))))))))))))) (sNil)) (sRet (eOwn (s "_law_plain") (aCons (eVar 0) (aCons (eVar 1) (aCons (eVar 2) (aNil))))))))))
noncomputable def m_law_plain (s : Str → Fn) : Fs := sSeq (sAsg 3 (eIx (eVar 0) (eC (.int 0)))) (sSeq (sIf (tst (eOp eqO (eVar 3) (eC (.str "truth")))) (sRet (eIf (tst (eIsi .bool (eVar 1))) (eLst (aNil)) (eLst (aCons (eTup (aCons (eVar 2) (aCons (eC (.str "truth")) (aNil)))) (aNil))))) (sNil)) (sSeq (sIf (tst (eOp eqO (eVar 3) (eC (.str "number")))) (sSeq (sIf (tOrF (tst (eIsi .bool (eVar 1))) (tNotF (tst (eIsi .int (eVar 1))))) (sRet (eLst (aCons (eTup (aCons (eVar 2) (aCons (eC (.str "number")) (aNil)))) (aNil)))) (sNil)) (sRet (eOp addD (eOp mulD (eLst (aCons (eTup (aCons (eVar 2) (aCons (eC (.str "small")) (aNil)))) (aNil))) (eCall intG (aCons (eOp ltD (eVar 1) (eIx (eVar 0) (eC (.int 1)))) (aNil)))) (eOp mulD (eLst (aCons (eTup (aCons (eVar 2) (aCons (eC (.str "great")) (aNil)))) (aNil))) (eCall intG (aCons (eOp gtD (eVar 1) (eIx (eVar 0) (eC (.int 2)))) (aNil))))))) (sNil)) (sSeq (sIf (tst (eOp eqO (eVar 3) (eC (.str "word")))) (sRet (eIf (tAndF (tst (eIsi .str (eVar 1))) (tst (eOp inD (eVar 1) (eCall listG (aCons (eIx (eVar 0) (eC (.int 1))) (aNil)))))) (eLst (aNil)) (eLst (aCons (eTup (aCons (eVar 2) (aCons (eC (.str "word")) (aNil)))) (aNil))))) (sNil)) (sSeq (sIf (tOrF (tNotF (tst (eIsi .str (eVar 1)))) (tst (eOp neO (dA (eComp (iSeq (eVar 1)) (.n 4) [4] (tst (eOp notInD (eVar 4) (eC (.str "abc")))) (eVar 4))) (eLst (aNil))))) (sRet (eLst (aCons (eTup (aCons (eVar 2) (aCons (eC (.str "text")) (aNil)))) (aNil)))) (sNil)) (sRet (eOp mulD (eLst (aCons (eTup (aCons (eVar 2) (aCons (eC (.str "long")) (aNil)))) (aNil))) (eCall intG (aCons (eOp gtD (eCall lenG (aCons (eVar 1) (aNil))) (eIx (eVar 0) (eC (.int 1)))) (aNil)))))))))
noncomputable def m_law_spoilt (s : Str → Fn) : Fs := sSeq (sIf (tAndF (tst (eIsi .list (eVar 2))) (tAndF (tst (eOp neO (eVar 2) (eLst (aNil)))) (tst (eOp gtD (eOwn (s "_law_draw") (aCons (eVar 0) (aCons (eVar 1) (aCons (eC (.int 4)) (aNil))))) (eC (.int 0)))))) (sSeq (sAsg 4 (eOwn (s "_law_draw") (aCons (eVar 0) (aCons (eVar 1) (aCons (eCall lenG (aCons (eVar 2) (aNil))) (aNil)))))) (sRet (eOp addD (eOp addD (eSl (eVar 2) oNone (oSome (eVar 4))) (eLst (aCons (eOwn (s "_law_spoilt") (aCons (eVar 0) (aCons (eVar 1) (aCons (eIx (eVar 2) (eVar 4)) (aNil))))) (aNil)))) (eSl (eVar 2) (oSome (eOp addD (eVar 4) (eC (.int 1)))) oNone)))) (sNil)) (sSeq (sIf (tAndF (tst (eIsi .tuple (eVar 2))) (tAndF (tst (eOp eqO (eCall lenG (aCons (eVar 2) (aNil))) (eC (.int 2)))) (tst (eOp gtD (eOwn (s "_law_draw") (aCons (eVar 0) (aCons (eVar 1) (aCons (eC (.int 4)) (aNil))))) (eC (.int 0)))))) (sRet (eTup (aCons (eIx (eVar 2) (eC (.int 0))) (aCons (eOwn (s "_law_spoilt") (aCons (eVar 0) (aCons (eVar 1) (aCons (eIx (eVar 2) (eC (.int 1))) (aNil))))) (aNil))))) (sNil)) (sSeq (sIf (tAndF (tst (eIsi .dict (eVar 2))) (tAndF (tst (eOp neO (eVar 2) (eC (.dct [])))) (tst (eOp gtD (eOwn (s "_law_draw") (aCons (eVar 0) (aCons (eVar 1) (aCons (eC (.int 4)) (aNil))))) (eC (.int 0)))))) (sSeq (sAsg 5 (eOwn (s "_law_pick") (aCons (eVar 0) (aCons (eVar 1) (aCons (eSortKeys (eVar 2)) (aNil)))))) (sSeq (sAsgN 6 (nDict (eVar 2))) (sSeq (sPop 6 (eVar 5)) (sSeq (sIf (tst (eOp gtD (eOwn (s "_law_draw") (aCons (eVar 0) (aCons (eVar 1) (aCons (eC (.int 4)) (aNil))))) (eC (.int 0)))) (sPut 6 (eVar 5) (eOwn (s "_law_spoilt") (aCons (eVar 0) (aCons (eVar 1) (aCons (eIx (eVar 2) (eVar 5)) (aNil)))))) (sNil)) (sRet (eVar 6)))))) (sNil)) (sSeq (sIf (tAndF (tst (eIsi .dict (eVar 2))) (tst (eOp eqO (eOwn (s "_law_draw") (aCons (eVar 0) (aCons (eVar 1) (aCons (eC (.int 2)) (aNil))))) (eC (.int 0))))) (sSeq (sAsgN 6 (nDict (eVar 2))) (sSeq (sPut 6 (eOwn (s "_law_word") (aCons (eVar 0) (aCons (eVar 1) (aNil)))) (eC (.int 0))) (sRet (eVar 6)))) (sNil)) (sSeq (sAsg 3 (eLst (aCons (eC (.bl true)) (aCons (eC (.int 1)) (aCons (eC (.int 0)) (aCons (eNeg (eC (.int 9))) (aCons (eC (.int 1000001)) (aCons (eC (.str "")) (aCons (eC (.str "a")) (aCons (eC (.str "d")) (aCons (eC (.str "abcab")) (aCons (eC .non) (aCons (eLst (aNil)) (aCons (eLst (aCons (eC .non) (aNil))) (aCons (eC (.dct [])) (aCons (eTup (aNil)) (aCons (eTup (aCons (eC (.str "a")) (aCons (eC (.int 0)) (aNil)))) (aCons (eTup (aCons (eC (.str "a")) (aNil))) (aCons (eTup (aCons (eC (.str "what")) (aCons (eLst (aNil)) (aNil)))) (aNil)))))))))))))))))))) (sSeq (sIf (tst (eIsi .list (eVar 2))) (sAsg 3 (eOp addD (eVar 3) (eLst (aCons (eOp addD (eVar 2) (eOp mulD (eSl (eVar 2) oNone (oSome (eC (.int 1)))) (eC (.int 4)))) (aCons (eOp addD (eVar 2) (eLst (aCons (eC .non) (aCons (eC (.str "x")) (aCons (eC (.int 7)) (aCons (eC (.bl true)) (aCons (eC (.str "")) (aNil)))))))) (aNil)))))) (sNil)) (sRet (eOwn (s "_law_pick") (aCons (eVar 0) (aCons (eVar 1) (aCons (eVar 3) (aNil)))))))))))
noncomputable def tbl : List (Str × ((Str → Fn) → Fn)) := [("is_whole", fun s => runF 3 0 (m_is_whole s)), ("is_word", fun s => runF 1 1 (m_is_word s)), ("are_words", fun s => runF 2 1 (m_are_words s)), ("is_shape", fun s => runF 2 0 (m_is_shape s)), ("are_parts", fun s => runF 3 1 (m_are_parts s)), ("look_shape", fun s => runF 1 0 (m_look_shape s)), ("is_of", fun s => runF 2 0 (m_is_of s)), ("is_one", fun s => runF 2 5 (m_is_one s)), ("is_of_kind", fun s => runF 2 2 (m_is_of_kind s)), ("part_of", fun s => runF 2 3 (m_part_of s)), ("faults", fun s => runF 2 0 (m_faults s)), ("wrong", fun s => runF 3 2 (m_wrong s)), ("wrong_list", fun s => runF 3 2 (m_wrong_list s)), ("wrong_kind", fun s => runF 3 1 (m_wrong_kind s)), ("wrong_rec", fun s => runF 3 4 (m_wrong_rec s)), ("_law_cell", fun s => runF 2 0 (m_law_cell s)), ("_law_mix", fun s => runF 2 1 (m_law_mix s)), ("_law_draw", fun s => runF 3 0 (m_law_draw s)), ("_law_pick", fun s => runF 3 0 (m_law_pick s)), ("_law_word", fun s => runF 2 2 (m_law_word s)), ("_law_words", fun s => runF 3 2 (m_law_words s)), ("_law_shape", fun s => runF 4 6 (m_law_shape s)), ("_law_thing", fun s => runF 3 7 (m_law_thing s)), ("_law_same", fun s => runF 2 2 (m_law_same s)), ("_law_part", fun s => runF 2 3 (m_law_part s)), ("_law_wrong", fun s => runF 3 6 (m_law_wrong s)), ("_law_plain", fun s => runF 3 2 (m_law_plain s)), ("_law_spoilt", fun s => runF 3 4 (m_law_spoilt s))]
noncomputable def pickF (t : Option ((Str → Fn) → Fn)) (s : Str → Fn) : Fn := match t with
  | some F => F s
  | none => fun _ _ => .stuck
noncomputable def sem : Nat → Str → Fn
  | 0 => fun _ _ _ => .stuck
  | k + 1 => fun n => pickF (tbl.lookup n) (sem k)
theorem u_is_whole (k : Nat) : sem (k + 1) "is_whole" = runF 3 0 (m_is_whole (sem k)) := by kernel_rfl
theorem u_is_word (k : Nat) : sem (k + 1) "is_word" = runF 1 1 (m_is_word (sem k)) := by kernel_rfl
theorem u_are_words (k : Nat) : sem (k + 1) "are_words" = runF 2 1 (m_are_words (sem k)) := by kernel_rfl
theorem u_is_shape (k : Nat) : sem (k + 1) "is_shape" = runF 2 0 (m_is_shape (sem k)) := by kernel_rfl
theorem u_are_parts (k : Nat) : sem (k + 1) "are_parts" = runF 3 1 (m_are_parts (sem k)) := by kernel_rfl
theorem u_look_shape (k : Nat) : sem (k + 1) "look_shape" = runF 1 0 (m_look_shape (sem k)) := by kernel_rfl
theorem u_is_of (k : Nat) : sem (k + 1) "is_of" = runF 2 0 (m_is_of (sem k)) := by kernel_rfl
theorem u_is_one (k : Nat) : sem (k + 1) "is_one" = runF 2 5 (m_is_one (sem k)) := by kernel_rfl
theorem u_is_of_kind (k : Nat) : sem (k + 1) "is_of_kind" = runF 2 2 (m_is_of_kind (sem k)) := by kernel_rfl
theorem u_part_of (k : Nat) : sem (k + 1) "part_of" = runF 2 3 (m_part_of (sem k)) := by kernel_rfl
theorem u_faults (k : Nat) : sem (k + 1) "faults" = runF 2 0 (m_faults (sem k)) := by kernel_rfl
theorem u_wrong (k : Nat) : sem (k + 1) "wrong" = runF 3 2 (m_wrong (sem k)) := by kernel_rfl
theorem u_wrong_list (k : Nat) : sem (k + 1) "wrong_list" = runF 3 2 (m_wrong_list (sem k)) := by kernel_rfl
theorem u_wrong_kind (k : Nat) : sem (k + 1) "wrong_kind" = runF 3 1 (m_wrong_kind (sem k)) := by kernel_rfl
theorem u_wrong_rec (k : Nat) : sem (k + 1) "wrong_rec" = runF 3 4 (m_wrong_rec (sem k)) := by kernel_rfl
theorem u_law_cell (k : Nat) : sem (k + 1) "_law_cell" = runF 2 0 (m_law_cell (sem k)) := by kernel_rfl
theorem u_law_mix (k : Nat) : sem (k + 1) "_law_mix" = runF 2 1 (m_law_mix (sem k)) := by kernel_rfl
theorem u_law_draw (k : Nat) : sem (k + 1) "_law_draw" = runF 3 0 (m_law_draw (sem k)) := by kernel_rfl
theorem u_law_pick (k : Nat) : sem (k + 1) "_law_pick" = runF 3 0 (m_law_pick (sem k)) := by kernel_rfl
theorem u_law_word (k : Nat) : sem (k + 1) "_law_word" = runF 2 2 (m_law_word (sem k)) := by kernel_rfl
theorem u_law_words (k : Nat) : sem (k + 1) "_law_words" = runF 3 2 (m_law_words (sem k)) := by kernel_rfl
theorem u_law_shape (k : Nat) : sem (k + 1) "_law_shape" = runF 4 6 (m_law_shape (sem k)) := by kernel_rfl
theorem u_law_thing (k : Nat) : sem (k + 1) "_law_thing" = runF 3 7 (m_law_thing (sem k)) := by kernel_rfl
theorem u_law_same (k : Nat) : sem (k + 1) "_law_same" = runF 2 2 (m_law_same (sem k)) := by kernel_rfl
theorem u_law_part (k : Nat) : sem (k + 1) "_law_part" = runF 2 3 (m_law_part (sem k)) := by kernel_rfl
theorem u_law_wrong (k : Nat) : sem (k + 1) "_law_wrong" = runF 3 6 (m_law_wrong (sem k)) := by kernel_rfl
theorem u_law_plain (k : Nat) : sem (k + 1) "_law_plain" = runF 3 2 (m_law_plain (sem k)) := by kernel_rfl
theorem u_law_spoilt (k : Nat) : sem (k + 1) "_law_spoilt" = runF 3 4 (m_law_spoilt (sem k)) := by kernel_rfl
theorem sc_is_whole : FnScope ["thing", "least", "most"] ["thing", "least", "most"] (defScope (top 11)) := ⟨rfl, rfl, rfl, by decide +kernel, rfl, by decide +kernel, by decide +kernel⟩
theorem sc_is_word : FnScope ["thing", "sign"] ["thing"] (defScope (top 12)) := ⟨rfl, rfl, rfl, by decide +kernel, rfl, by decide +kernel, by decide +kernel⟩
theorem sc_are_words : FnScope ["some", "least", "one"] ["some", "least"] (defScope (top 13)) := ⟨rfl, rfl, rfl, by decide +kernel, rfl, by decide +kernel, by decide +kernel⟩
theorem sc_is_shape : FnScope ["thing", "deep"] ["thing", "deep"] (defScope (top 14)) := ⟨rfl, rfl, rfl, by decide +kernel, rfl, by decide +kernel, by decide +kernel⟩
theorem sc_are_parts : FnScope ["parts", "deep", "least", "part"] ["parts", "deep", "least"] (defScope (top 15)) := ⟨rfl, rfl, rfl, by decide +kernel, rfl, by decide +kernel, by decide +kernel⟩
theorem sc_look_shape : FnScope ["shape"] ["shape"] (defScope (top 16)) := ⟨rfl, rfl, rfl, by decide +kernel, rfl, by decide +kernel, by decide +kernel⟩
theorem sc_is_of : FnScope ["shape", "thing"] ["shape", "thing"] (defScope (top 17)) := ⟨rfl, rfl, rfl, by decide +kernel, rfl, by decide +kernel, by decide +kernel⟩
theorem sc_is_one : FnScope ["shape", "thing", "word", "name", "part", "sign", "one"] ["shape", "thing"] (defScope (top 18)) := ⟨rfl, rfl, rfl, by decide +kernel, rfl, by decide +kernel, by decide +kernel⟩
theorem sc_is_of_kind : FnScope ["shape", "thing", "one", "part"] ["shape", "thing"] (defScope (top 19)) := ⟨rfl, rfl, rfl, by decide +kernel, rfl, by decide +kernel, by decide +kernel⟩
theorem sc_part_of : FnScope ["shape", "name", "some", "one", "part"] ["shape", "name"] (defScope (top 20)) := ⟨rfl, rfl, rfl, by decide +kernel, rfl, by decide +kernel, by decide +kernel⟩
theorem sc_faults : FnScope ["shape", "thing"] ["shape", "thing"] (defScope (top 22)) := ⟨rfl, rfl, rfl, by decide +kernel, rfl, by decide +kernel, by decide +kernel⟩
theorem sc_wrong : FnScope ["shape", "thing", "path", "word", "sign"] ["shape", "thing", "path"] (defScope (top 23)) := ⟨rfl, rfl, rfl, by decide +kernel, rfl, by decide +kernel, by decide +kernel⟩
theorem sc_wrong_list : FnScope ["shape", "thing", "path", "found", "k"] ["shape", "thing", "path"] (defScope (top 24)) := ⟨rfl, rfl, rfl, by decide +kernel, rfl, by decide +kernel, by decide +kernel⟩
theorem sc_wrong_kind : FnScope ["shape", "thing", "path", "part"] ["shape", "thing", "path"] (defScope (top 25)) := ⟨rfl, rfl, rfl, by decide +kernel, rfl, by decide +kernel, by decide +kernel⟩
theorem sc_wrong_rec : FnScope ["shape", "thing", "path", "found", "names", "name", "part"] ["shape", "thing", "path"] (defScope (top 26)) := ⟨rfl, rfl, rfl, by decide +kernel, rfl, by decide +kernel, by decide +kernel⟩
theorem sc_law_cell : FnScope ["script", "k"] ["script", "k"] (defScope (top 28)) := ⟨rfl, rfl, rfl, by decide +kernel, rfl, by decide +kernel, by decide +kernel⟩
theorem sc_law_mix : FnScope ["script", "k", "number"] ["script", "k"] (defScope (top 29)) := ⟨rfl, rfl, rfl, by decide +kernel, rfl, by decide +kernel, by decide +kernel⟩
theorem sc_law_draw : FnScope ["script", "town", "many"] ["script", "town", "many"] (defScope (top 30)) := ⟨rfl, rfl, rfl, by decide +kernel, rfl, by decide +kernel, by decide +kernel⟩
theorem sc_law_pick : FnScope ["script", "town", "some"] ["script", "town", "some"] (defScope (top 31)) := ⟨rfl, rfl, rfl, by decide +kernel, rfl, by decide +kernel, by decide +kernel⟩
theorem sc_law_word : FnScope ["script", "town", "signs", "k"] ["script", "town"] (defScope (top 32)) := ⟨rfl, rfl, rfl, by decide +kernel, rfl, by decide +kernel, by decide +kernel⟩
theorem sc_law_words : FnScope ["script", "town", "least_many", "found", "k"] ["script", "town", "least_many"] (defScope (top 33)) := ⟨rfl, rfl, rfl, by decide +kernel, rfl, by decide +kernel, by decide +kernel⟩
theorem sc_law_shape : FnScope ["script", "town", "deep", "wide", "sort", "names_now", "parts", "low", "inner", "name"] ["script", "town", "deep", "wide"] (defScope (top 34)) := ⟨rfl, rfl, rfl, by decide +kernel, rfl, by decide +kernel, by decide +kernel⟩
theorem sc_law_thing : FnScope ["script", "town", "shape", "word", "found", "within_it", "is_none", "name", "part", "k"] ["script", "town", "shape"] (defScope (top 35)) := ⟨rfl, rfl, rfl, by decide +kernel, rfl, by decide +kernel, by decide +kernel⟩
theorem sc_law_same : FnScope ["one", "other", "name", "k"] ["one", "other"] (defScope (top 36)) := ⟨rfl, rfl, rfl, by decide +kernel, rfl, by decide +kernel, by decide +kernel⟩
theorem sc_law_part : FnScope ["shape", "name", "some", "one", "part"] ["shape", "name"] (defScope (top 37)) := ⟨rfl, rfl, rfl, by decide +kernel, rfl, by decide +kernel, by decide +kernel⟩
theorem sc_law_wrong : FnScope ["shape", "thing", "path", "word", "found", "k", "told", "name", "part"] ["shape", "thing", "path"] (defScope (top 38)) := ⟨rfl, rfl, rfl, by decide +kernel, rfl, by decide +kernel, by decide +kernel⟩
theorem sc_law_plain : FnScope ["shape", "thing", "path", "word", "sign"] ["shape", "thing", "path"] (defScope (top 39)) := ⟨rfl, rfl, rfl, by decide +kernel, rfl, by decide +kernel, by decide +kernel⟩
theorem sc_law_spoilt : FnScope ["script", "town", "thing", "some", "at", "name", "new"] ["script", "town", "thing"] (defScope (top 40)) := ⟨rfl, rfl, rfl, by decide +kernel, rfl, by decide +kernel, by decide +kernel⟩
theorem sc_law : FnScope ["script", "town", "shape", "thing", "k", "found", "name", "part"] ["script"] (defScope (top 41)) := ⟨rfl, rfl, rfl, by decide +kernel, rfl, by decide +kernel, by decide +kernel⟩
noncomputable def m_law (s : Str → Fn) : Fs := sSeq (sAsg 2 (eOwn (s "_law_shape") (aCons (eVar 0) (aCons (eVar 1) (aCons (eC (.int 4)) (aCons (eC (.bl true)) (aNil))))))) (sSeq (sAsg 3 (eOwn (s "_law_thing") (aCons (eVar 0) (aCons (eVar 1) (aCons (eVar 2) (aNil)))))) (sSeq (sIf (tst (eOp neO (eOwn (s "faults") (aCons (eVar 2) (aCons (eVar 3) (aNil)))) (eLst (aNil)))) (sRet (eC (.bl false))) (sNil)) (sSeq (sFor (iRng1 (eC (.int 3))) (.n 4) (sSeq (sAsg 3 (eOwn (s "_law_spoilt") (aCons (eVar 0) (aCons (eVar 1) (aCons (eVar 3) (aNil)))))) (sSeq (sAsg 5 (eOwn (s "faults") (aCons (eVar 2) (aCons (eVar 3) (aNil))))) (sIf (tOrF (tst (eOp neO (eVar 5) (eOwn (s "_law_wrong") (aCons (eVar 2) (aCons (eVar 3) (aCons (eTup (aNil)) (aNil))))))) (tst (eOp neO (eOwn (s "is_of") (aCons (eVar 2) (aCons (eVar 3) (aNil)))) (eOp eqO (eVar 5) (eLst (aNil)))))) (sRet (eC (.bl false))) (sNil))))) (sSeq (sIf (tst (eOp neO (eIx (eVar 2) (eC (.int 0))) (eC (.str "rec")))) (sRet (eC (.bl true))) (sNil)) (sRet (eOp eqO (eOwn (s "faults") (aCons (eVar 2) (aCons (eC (.dct [])) (aNil)))) (dA (eComp (iSeq (eIx (eVar 2) (eC (.int 1)))) (.t [6, 7]) [6, 7] (tYesF) (eTup (aCons (eTup (aCons (eVar 6) (aNil))) (aCons (eC (.str "lacking")) (aNil))))))))))))
section
variable {w : World} {K : Frag} {mg : Str → Option Value} {base : Heap} {k : Nat} {s : Str → Fn}
abbrev Pg : Program := PySem.Challenge.pw_shapeleads_k21_whole_faults
theorem w_is_whole (Fc : Facts w K mg) (C : ∀ f : Fnm, Callee Pg w K mg base k f.nm (s f.nm)) : Bd Pg w K mg base k ["thing", "least", "most"] "is_whole" (defScope (top 11)) (defBody (top 11)) (m_is_whole s) :=
  ⟨fun f cdv A outer s0 H E q hp => ⟨[], gss_one (gs_ret (ge_and (ge_isi (T := .int) (ge_var (i := 0)) Fc.n_isinstance Fc.n_int PyProof.Rows.boot_int) (ge_and (ge_not (ge_isi (T := .bool) (ge_var (i := 0)) Fc.n_isinstance Fc.n_bool PyProof.Rows.boot_bool)) (ge_one (ge_chain op_le og_le op_le og_le (ge_var (i := 1)) (ge_var (i := 0)) (ge_var (i := 2)))))))⟩⟩
theorem w_is_word (Fc : Facts w K mg) (C : ∀ f : Fnm, Callee Pg w K mg base k f.nm (s f.nm)) : Bd Pg w K mg base k ["thing", "sign"] "is_word" (defScope (top 12)) (defBody (top 12)) (m_is_word s) :=
  ⟨fun f cdv A outer s0 H E q hp => ⟨[], gss_one (gs_ret (ge_and (ge_isi (T := .str) (ge_var (i := 0)) Fc.n_isinstance Fc.n_str PyProof.Rows.boot_str) (ge_and (ge_chain op_le og_le op_le og_le (ge_int) (ge_callB call_lenG cg_len Fc.n_len boot_len (ga_cons (ge_var (i := 0)) (ga_nil))) (ge_gint Fc.c_MOST_WORD)) (ge_one (ge_callB (cr_all rfl) cg_all Fc.n_all PyProof.Rows.boot_all (ga_cons (GN.ge (gn_comp (own := [("sign", 1)]) sc_is_word.nd (gi_seq (ge_var (i := 0))) (blkOk_by (N := ["thing", "sign"]) (sc := defScope (top 12)) (by decide +kernel)) (fun s1 H1 C1 cl fp => gg_name (i := 1) sc_is_word.nd) (fun s1 H1 C1 cl fp => gts_nil) (fun s1 H1 C1 cl fp => ge_cmp (op_inG (q.blk [] s1 H1 _ _ fp).hu) og_in (ge_var (i := 1)) (ge_gstr Fc.c_SMALL)))) (ga_nil)))))))⟩⟩
theorem w_are_words (Fc : Facts w K mg) (C : ∀ f : Fnm, Callee Pg w K mg base k f.nm (s f.nm)) : Bd Pg w K mg base k ["some", "least", "one"] "are_words" (defScope (top 13)) (defBody (top 13)) (m_are_words s) :=
  ⟨fun f cdv A outer s0 H E q hp => ⟨[], gss_one (gs_ret (ge_and (ge_chain op_le og_le op_le og_le (ge_var (i := 1)) (ge_callB call_lenG cg_len Fc.n_len boot_len (ga_cons (ge_var (i := 0)) (ga_nil))) (ge_gint Fc.c_MOST_PARTS)) (ge_and (ge_callB (cr_all rfl) cg_all Fc.n_all PyProof.Rows.boot_all (ga_cons (GN.ge (gn_comp (own := [("one", 2)]) sc_are_words.nd (gi_seq (ge_var (i := 0))) (blkOk_by (N := ["some", "least", "one"]) (sc := defScope (top 13)) (by decide +kernel)) (fun s1 H1 C1 cl fp => gg_name (i := 2) sc_are_words.nd) (fun s1 H1 C1 cl fp => gts_nil) (fun s1 H1 C1 cl fp => ge_own (q.blk [] s1 H1 _ _ fp) (C .is_word) (ga_cons (ge_var (i := 2)) (ga_nil))))) (ga_nil))) (ge_one (ge_cmp (op_eqG q.hq) og_eq (ge_lenSet (ge_var (i := 0)) Fc.n_len Fc.n_set) (ge_callB call_lenG cg_len Fc.n_len boot_len (ga_cons (ge_var (i := 0)) (ga_nil))))))))⟩⟩
theorem w_is_shape (Fc : Facts w K mg) (C : ∀ f : Fnm, Callee Pg w K mg base k f.nm (s f.nm)) : Bd Pg w K mg base k ["thing", "deep"] "is_shape" (defScope (top 14)) (defBody (top 14)) (m_is_shape s) :=
  ⟨fun f cdv A outer s0 H E q hp => ⟨[], gss_cons (gs_if (gt_w (gw_or (gt_not (gt_val (ge_isi (T := .tuple) (ge_var (i := 0)) Fc.n_isinstance Fc.n_tuple PyProof.Rows.boot_tuple))) (gw_or (gt_cmp (op_eqG q.hq) og_eq (ge_callB call_lenG cg_len Fc.n_len boot_len (ga_cons (ge_var (i := 0)) (ga_nil))) (ge_int)) (gw_or (gt_cmp (op_eqG q.hq) og_eq (ge_var (i := 1)) (ge_int)) (gw_or1 (gt_not (gt_val (ge_isi (T := .str) (ge_ix q.hu (ge_var (i := 0)) (ge_int)) Fc.n_isinstance Fc.n_str PyProof.Rows.boot_str)))))))) (gss_one (gs_ret (ge_bl))) (gss_nil)) (gss_cons (gs_if (gt_cmp (op_neG q.hq) og_ne (ge_callB call_lenG cg_len Fc.n_len boot_len (ga_cons (ge_var (i := 0)) (ga_nil))) (ge_tab Fc.t_SIZES.1 Fc.t_SIZES.2 (ge_ix q.hu (ge_var (i := 0)) (ge_int)))) (gss_one (gs_ret (ge_bl))) (gss_nil)) (gss_cons (gs_if (gt_cmp (op_eqG q.hq) og_eq (ge_ix q.hu (ge_var (i := 0)) (ge_int)) (ge_str)) (gss_one (gs_ret (ge_bl))) (gss_nil)) (gss_cons (gs_if (gt_cmp (op_eqG q.hq) og_eq (ge_ix q.hu (ge_var (i := 0)) (ge_int)) (ge_str)) (gss_one (gs_ret (ge_and (ge_own q (C .is_whole) (ga_cons (ge_ix q.hu (ge_var (i := 0)) (ge_int)) (ga_cons (ge_op op_sub og_sub (ge_int) (ge_gint Fc.c_FAR)) (ga_cons (ge_gint Fc.c_FAR) (ga_nil))))) (ge_one (ge_own q (C .is_whole) (ga_cons (ge_ix q.hu (ge_var (i := 0)) (ge_int)) (ga_cons (ge_ix q.hu (ge_var (i := 0)) (ge_int)) (ga_cons (ge_gint Fc.c_FAR) (ga_nil))))))))) (gss_nil)) (gss_cons (gs_if (gt_cmp (op_eqG q.hq) og_eq (ge_ix q.hu (ge_var (i := 0)) (ge_int)) (ge_str)) (gss_one (gs_ret (ge_own q (C .is_whole) (ga_cons (ge_ix q.hu (ge_var (i := 0)) (ge_int)) (ga_cons (ge_int) (ga_cons (ge_gint Fc.c_MOST_PARTS) (ga_nil))))))) (gss_nil)) (gss_cons (gs_if (gt_cmp (op_eqG q.hq) og_eq (ge_ix q.hu (ge_var (i := 0)) (ge_int)) (ge_str)) (gss_one (gs_ret (ge_and (ge_own q (C .is_shape) (ga_cons (ge_ix q.hu (ge_var (i := 0)) (ge_int)) (ga_cons (ge_op op_sub og_sub (ge_var (i := 1)) (ge_int)) (ga_nil)))) (ge_one (ge_own q (C .is_whole) (ga_cons (ge_ix q.hu (ge_var (i := 0)) (ge_int)) (ga_cons (ge_int) (ga_cons (ge_gint Fc.c_MOST_PARTS) (ga_nil))))))))) (gss_nil)) (gss_cons (gs_if (gt_cmp (op_eqG q.hq) og_eq (ge_ix q.hu (ge_var (i := 0)) (ge_int)) (ge_str)) (gss_one (gs_ret (ge_and (ge_own q (C .is_shape) (ga_cons (ge_ix q.hu (ge_var (i := 0)) (ge_int)) (ga_cons (ge_op op_sub og_sub (ge_var (i := 1)) (ge_int)) (ga_nil)))) (ge_one (ge_cmp (op_neG q.hq) og_ne (ge_ix q.hu (ge_ix q.hu (ge_var (i := 0)) (ge_int)) (ge_int)) (ge_str)))))) (gss_nil)) (gss_cons (gs_if (gt_not (gt_val (ge_isi (T := .tuple) (ge_ix q.hu (ge_var (i := 0)) (ge_int)) Fc.n_isinstance Fc.n_tuple PyProof.Rows.boot_tuple))) (gss_one (gs_ret (ge_bl))) (gss_nil)) (gss_one (gs_ret (ge_if (gt_cmp (op_eqG q.hq) og_eq (ge_ix q.hu (ge_var (i := 0)) (ge_int)) (ge_str)) (ge_own q (C .are_words) (ga_cons (ge_ix q.hu (ge_var (i := 0)) (ge_int)) (ga_cons (ge_int) (ga_nil)))) (ge_own q (C .are_parts) (ga_cons (ge_ix q.hu (ge_var (i := 0)) (ge_int)) (ga_cons (ge_var (i := 1)) (ga_cons (ge_callT call_int1 cg_int Fc.n_int PyProof.Rows.boot_int (ga_cons (ge_cmp (op_eqG q.hq) og_eq (ge_ix q.hu (ge_var (i := 0)) (ge_int)) (ge_str)) (ga_nil))) (ga_nil)))))))))))))))⟩⟩
theorem w_are_parts (Fc : Facts w K mg) (C : ∀ f : Fnm, Callee Pg w K mg base k f.nm (s f.nm)) : Bd Pg w K mg base k ["parts", "deep", "least", "part"] "are_parts" (defScope (top 15)) (defBody (top 15)) (m_are_parts s) :=
  ⟨fun f cdv A outer s0 H E q hp => ⟨[], gss_cons (gs_if (gt_not (gt_val (ge_callB (cr_all rfl) cg_all Fc.n_all PyProof.Rows.boot_all (ga_cons (GN.ge (gn_comp (own := [("part", 3)]) sc_are_parts.nd (gi_seq (ge_var (i := 0))) (blkOk_by (N := ["parts", "deep", "least", "part"]) (sc := defScope (top 15)) (by decide +kernel)) (fun s1 H1 C1 cl fp => gg_name (i := 3) sc_are_parts.nd) (fun s1 H1 C1 cl fp => gts_nil) (fun s1 H1 C1 cl fp => ge_and (ge_isi (T := .tuple) (ge_var (i := 3)) Fc.n_isinstance Fc.n_tuple PyProof.Rows.boot_tuple) (ge_one (ge_cmp (op_eqG (q.blk [] s1 H1 _ _ fp).hq) og_eq (ge_callB call_lenG cg_len Fc.n_len boot_len (ga_cons (ge_var (i := 3)) (ga_nil))) (ge_int)))))) (ga_nil))))) (gss_one (gs_ret (ge_bl))) (gss_nil)) (gss_cons (gs_if (gt_w (gw_or (gt_not (gt_val (ge_callB (cr_all rfl) cg_all Fc.n_all PyProof.Rows.boot_all (ga_cons (GN.ge (gn_comp (own := [("part", 3)]) sc_are_parts.nd (gi_seq (ge_var (i := 0))) (blkOk_by (N := ["parts", "deep", "least", "part"]) (sc := defScope (top 15)) (by decide +kernel)) (fun s1 H1 C1 cl fp => gg_name (i := 3) sc_are_parts.nd) (fun s1 H1 C1 cl fp => gts_nil) (fun s1 H1 C1 cl fp => ge_own (q.blk [] s1 H1 _ _ fp) (C .is_word) (ga_cons (ge_ix (q.blk [] s1 H1 _ _ fp).hu (ge_var (i := 3)) (ge_int)) (ga_nil))))) (ga_nil))))) (gw_or1 (gt_not (gt_val (ge_own q (C .are_words) (ga_cons (GN.ge (gn_comp (own := [("part", 3)]) sc_are_parts.nd (gi_seq (ge_var (i := 0))) (blkOk_by (N := ["parts", "deep", "least", "part"]) (sc := defScope (top 15)) (by decide +kernel)) (fun s1 H1 C1 cl fp => gg_name (i := 3) sc_are_parts.nd) (fun s1 H1 C1 cl fp => gts_nil) (fun s1 H1 C1 cl fp => ge_ix (q.blk [] s1 H1 _ _ fp).hu (ge_var (i := 3)) (ge_int)))) (ga_cons (ge_var (i := 2)) (ga_nil))))))))) (gss_one (gs_ret (ge_bl))) (gss_nil)) (gss_one (gs_ret (ge_callB (cr_all rfl) cg_all Fc.n_all PyProof.Rows.boot_all (ga_cons (GN.ge (gn_comp (own := [("part", 3)]) sc_are_parts.nd (gi_seq (ge_var (i := 0))) (blkOk_by (N := ["parts", "deep", "least", "part"]) (sc := defScope (top 15)) (by decide +kernel)) (fun s1 H1 C1 cl fp => gg_name (i := 3) sc_are_parts.nd) (fun s1 H1 C1 cl fp => gts_nil) (fun s1 H1 C1 cl fp => ge_own (q.blk [] s1 H1 _ _ fp) (C .is_shape) (ga_cons (ge_ix (q.blk [] s1 H1 _ _ fp).hu (ge_var (i := 3)) (ge_int)) (ga_cons (ge_op op_sub og_sub (ge_var (i := 1)) (ge_int)) (ga_nil)))))) (ga_nil))))))⟩⟩
theorem w_look_shape (Fc : Facts w K mg) (C : ∀ f : Fnm, Callee Pg w K mg base k f.nm (s f.nm)) : Bd Pg w K mg base k ["shape"] "look_shape" (defScope (top 16)) (defBody (top 16)) (m_look_shape s) :=
  ⟨fun f cdv A outer s0 H E q hp => ⟨[], gss_one (gs_if (gt_not (gt_val (ge_own q (C .is_shape) (ga_cons (ge_var (i := 0)) (ga_cons (ge_gint Fc.c_MOST_DEEP) (ga_nil)))))) (gss_one (gs_raise q Fc.x_BadShape)) (gss_nil))⟩⟩
theorem w_is_of (Fc : Facts w K mg) (C : ∀ f : Fnm, Callee Pg w K mg base k f.nm (s f.nm)) : Bd Pg w K mg base k ["shape", "thing"] "is_of" (defScope (top 17)) (defBody (top 17)) (m_is_of s) :=
  ⟨fun f cdv A outer s0 H E q hp => ⟨[], gss_cons (gs_expr (ge_own q (C .look_shape) (ga_cons (ge_var (i := 0)) (ga_nil)))) (gss_one (gs_ret (ge_own q (C .is_one) (ga_cons (ge_var (i := 0)) (ga_cons (ge_var (i := 1)) (ga_nil))))))⟩⟩
theorem w_is_one (Fc : Facts w K mg) (C : ∀ f : Fnm, Callee Pg w K mg base k f.nm (s f.nm)) : Bd Pg w K mg base k ["shape", "thing", "word", "name", "part", "sign", "one"] "is_one" (defScope (top 18)) (defBody (top 18)) (m_is_one s) :=
  ⟨fun f cdv A outer s0 H E q hp => ⟨[], gss_cons (gs_asg (i := 2) sc_is_one.nd (ge_ix q.hu (ge_var (i := 0)) (ge_int))) (gss_cons (gs_if (gt_cmp (op_eqG q.hq) og_eq (ge_var (i := 2)) (ge_str)) (gss_one (gs_ret (ge_or (ge_isN (ge_var (i := 1))) (ge_one (ge_own q (C .is_one) (ga_cons (ge_ix q.hu (ge_var (i := 0)) (ge_int)) (ga_cons (ge_var (i := 1)) (ga_nil)))))))) (gss_nil)) (gss_cons (gs_if (gt_cmp (op_eqG q.hq) og_eq (ge_var (i := 2)) (ge_str)) (gss_one (gs_ret (ge_own q (C .is_whole) (ga_cons (ge_var (i := 1)) (ga_cons (ge_ix q.hu (ge_var (i := 0)) (ge_int)) (ga_cons (ge_ix q.hu (ge_var (i := 0)) (ge_int)) (ga_nil))))))) (gss_nil)) (gss_cons (gs_if (gt_cmp (op_eqG q.hq) og_eq (ge_var (i := 2)) (ge_str)) (gss_one (gs_ret (ge_isi (T := .bool) (ge_var (i := 1)) Fc.n_isinstance Fc.n_bool PyProof.Rows.boot_bool))) (gss_nil)) (gss_cons (gs_if (gt_cmp (op_eqG q.hq) og_eq (ge_var (i := 2)) (ge_str)) (gss_one (gs_ret (ge_and (ge_isi (T := .str) (ge_var (i := 1)) Fc.n_isinstance Fc.n_str PyProof.Rows.boot_str) (ge_one (ge_cmp (op_inG q.hu) og_in (ge_var (i := 1)) (ge_ix q.hu (ge_var (i := 0)) (ge_int))))))) (gss_nil)) (gss_cons (gs_if (gt_cmp (op_eqG q.hq) og_eq (ge_var (i := 2)) (ge_str)) (gss_one (gs_ret (ge_and (ge_isi (T := .str) (ge_var (i := 1)) Fc.n_isinstance Fc.n_str PyProof.Rows.boot_str) (ge_and (ge_cmp op_le og_le (ge_callB call_lenG cg_len Fc.n_len boot_len (ga_cons (ge_var (i := 1)) (ga_nil))) (ge_ix q.hu (ge_var (i := 0)) (ge_int))) (ge_one (ge_callB (cr_all rfl) cg_all Fc.n_all PyProof.Rows.boot_all (ga_cons (GN.ge (gn_comp (own := [("sign", 5)]) sc_is_one.nd (gi_seq (ge_var (i := 1))) (blkOk_by (N := ["shape", "thing", "word", "name", "part", "sign", "one"]) (sc := defScope (top 18)) (by decide +kernel)) (fun s1 H1 C1 cl fp => gg_name (i := 5) sc_is_one.nd) (fun s1 H1 C1 cl fp => gts_nil) (fun s1 H1 C1 cl fp => ge_cmp (op_inG (q.blk [] s1 H1 _ _ fp).hu) og_in (ge_var (i := 5)) (ge_gstr Fc.c_LETTERS)))) (ga_nil)))))))) (gss_nil)) (gss_cons (gs_if (gt_cmp (op_eqG q.hq) og_eq (ge_var (i := 2)) (ge_str)) (gss_one (gs_ret (ge_and (ge_isi (T := .list) (ge_var (i := 1)) Fc.n_isinstance Fc.n_list PyProof.Rows.boot_list) (ge_and (ge_cmp op_le og_le (ge_callB call_lenG cg_len Fc.n_len boot_len (ga_cons (ge_var (i := 1)) (ga_nil))) (ge_ix q.hu (ge_var (i := 0)) (ge_int))) (ge_one (ge_callB (cr_all rfl) cg_all Fc.n_all PyProof.Rows.boot_all (ga_cons (GN.ge (gn_comp (own := [("one", 6)]) sc_is_one.nd (gi_seq (ge_var (i := 1))) (blkOk_by (N := ["shape", "thing", "word", "name", "part", "sign", "one"]) (sc := defScope (top 18)) (by decide +kernel)) (fun s1 H1 C1 cl fp => gg_name (i := 6) sc_is_one.nd) (fun s1 H1 C1 cl fp => gts_nil) (fun s1 H1 C1 cl fp => ge_own (q.blk [] s1 H1 _ _ fp) (C .is_one) (ga_cons (ge_ix (q.blk [] s1 H1 _ _ fp).hu (ge_var (i := 0)) (ge_int)) (ga_cons (ge_var (i := 6)) (ga_nil)))))) (ga_nil)))))))) (gss_nil)) (gss_cons (gs_if (gt_cmp (op_eqG q.hq) og_eq (ge_var (i := 2)) (ge_str)) (gss_one (gs_ret (ge_and (ge_isi (T := .tuple) (ge_var (i := 1)) Fc.n_isinstance Fc.n_tuple PyProof.Rows.boot_tuple) (ge_and (ge_cmp (op_eqG q.hq) og_eq (ge_callB call_lenG cg_len Fc.n_len boot_len (ga_cons (ge_var (i := 1)) (ga_nil))) (ge_int)) (ge_one (ge_own q (C .is_of_kind) (ga_cons (ge_var (i := 0)) (ga_cons (ge_var (i := 1)) (ga_nil))))))))) (gss_nil)) (gss_cons (gs_if (gt_w (gw_or (gt_not (gt_val (ge_isi (T := .dict) (ge_var (i := 1)) Fc.n_isinstance Fc.n_dict PyProof.Rows.boot_dict))) (gw_or1 (gt_cmp (op_neG q.hq) og_ne (ge_callB call_lenG cg_len Fc.n_len boot_len (ga_cons (ge_var (i := 1)) (ga_nil))) (ge_callB call_lenG cg_len Fc.n_len boot_len (ga_cons (ge_ix q.hu (ge_var (i := 0)) (ge_int)) (ga_nil))))))) (gss_one (gs_ret (ge_bl))) (gss_nil)) (gss_one (gs_ret (ge_callB (cr_all rfl) cg_all Fc.n_all PyProof.Rows.boot_all (ga_cons (GN.ge (gn_comp (own := [("name", 3), ("part", 4)]) sc_is_one.nd (gi_seq (ge_ix q.hu (ge_var (i := 0)) (ge_int))) (blkOk_by (N := ["shape", "thing", "word", "name", "part", "sign", "one"]) (sc := defScope (top 18)) (by decide +kernel)) (fun s1 H1 C1 cl fp => gg_tup (ggs_cons (gg_name (i := 3) sc_is_one.nd) (ggs_cons (gg_name (i := 4) sc_is_one.nd) (ggs_nil)))) (fun s1 H1 C1 cl fp => gts_nil) (fun s1 H1 C1 cl fp => ge_and (ge_cmp (op_inG (q.blk [] s1 H1 _ _ fp).hu) og_in (ge_var (i := 3)) (ge_var (i := 1))) (ge_one (ge_own (q.blk [] s1 H1 _ _ fp) (C .is_one) (ga_cons (ge_var (i := 4)) (ga_cons (ge_ix (q.blk [] s1 H1 _ _ fp).hu (ge_var (i := 1)) (ge_var (i := 3))) (ga_nil)))))))) (ga_nil)))))))))))))⟩⟩
theorem w_is_of_kind (Fc : Facts w K mg) (C : ∀ f : Fnm, Callee Pg w K mg base k f.nm (s f.nm)) : Bd Pg w K mg base k ["shape", "thing", "one", "part"] "is_of_kind" (defScope (top 19)) (defBody (top 19)) (m_is_of_kind s) :=
  ⟨fun f cdv A outer s0 H E q hp => ⟨[], gss_one (gs_ret (ge_callB (cr_any rfl) cg_any Fc.n_any PyProof.Rows.boot_any (ga_cons (GN.ge (gn_comp (own := [("one", 2), ("part", 3)]) sc_is_of_kind.nd (gi_seq (ge_ix q.hu (ge_var (i := 0)) (ge_int))) (blkOk_by (N := ["shape", "thing", "one", "part"]) (sc := defScope (top 19)) (by decide +kernel)) (fun s1 H1 C1 cl fp => gg_tup (ggs_cons (gg_name (i := 2) sc_is_of_kind.nd) (ggs_cons (gg_name (i := 3) sc_is_of_kind.nd) (ggs_nil)))) (fun s1 H1 C1 cl fp => gts_nil) (fun s1 H1 C1 cl fp => ge_and (ge_isi (T := .str) (ge_ix (q.blk [] s1 H1 _ _ fp).hu (ge_var (i := 1)) (ge_int)) Fc.n_isinstance Fc.n_str PyProof.Rows.boot_str) (ge_and (ge_cmp (op_eqG (q.blk [] s1 H1 _ _ fp).hq) og_eq (ge_ix (q.blk [] s1 H1 _ _ fp).hu (ge_var (i := 1)) (ge_int)) (ge_var (i := 2))) (ge_one (ge_own (q.blk [] s1 H1 _ _ fp) (C .is_one) (ga_cons (ge_var (i := 3)) (ga_cons (ge_ix (q.blk [] s1 H1 _ _ fp).hu (ge_var (i := 1)) (ge_int)) (ga_nil))))))))) (ga_nil))))⟩⟩
theorem w_part_of (Fc : Facts w K mg) (C : ∀ f : Fnm, Callee Pg w K mg base k f.nm (s f.nm)) : Bd Pg w K mg base k ["shape", "name", "some", "one", "part"] "part_of" (defScope (top 20)) (defBody (top 20)) (m_part_of s) :=
  ⟨fun f cdv A outer s0 H E q hp => ⟨[], gss_cons (gs_asgLc (i := 2) (own := [("one", 3), ("part", 4)]) sc_part_of.nd (gi_seq (ge_ix q.hu (ge_var (i := 0)) (ge_int))) (blkOk_by (N := ["shape", "name", "some", "one", "part"]) (sc := defScope (top 20)) (by decide +kernel)) (fun s1 H1 C1 cl fp => gg_tup (ggs_cons (gg_name (i := 3) sc_part_of.nd) (ggs_cons (gg_name (i := 4) sc_part_of.nd) (ggs_nil)))) (fun s1 H1 C1 cl fp => gts_one (gt_cmp (op_eqG (q.blk [] s1 H1 _ _ fp).hq) og_eq (ge_var (i := 3)) (ge_var (i := 1)))) (fun s1 H1 C1 cl fp => ge_var (i := 4))) (gss_one (gs_ret (ge_if (gt_tru (ge_var (i := 2))) (ge_ix q.hu (ge_var (i := 2)) (ge_int)) (ge_non))))⟩⟩
theorem w_faults (Fc : Facts w K mg) (C : ∀ f : Fnm, Callee Pg w K mg base k f.nm (s f.nm)) : Bd Pg w K mg base k ["shape", "thing"] "faults" (defScope (top 22)) (defBody (top 22)) (m_faults s) :=
  ⟨fun f cdv A outer s0 H E q hp => ⟨[], gss_cons (gs_expr (ge_own q (C .look_shape) (ga_cons (ge_var (i := 0)) (ga_nil)))) (gss_one (gs_ret (ge_own q (C .wrong) (ga_cons (ge_var (i := 0)) (ga_cons (ge_var (i := 1)) (ga_cons (ge_tup (ga_nil)) (ga_nil)))))))⟩⟩
theorem w_wrong (Fc : Facts w K mg) (C : ∀ f : Fnm, Callee Pg w K mg base k f.nm (s f.nm)) : Bd Pg w K mg base k ["shape", "thing", "path", "word", "sign"] "wrong" (defScope (top 23)) (defBody (top 23)) (m_wrong s) :=
  ⟨fun f cdv A outer s0 H E q hp => ⟨[], gss_cons (gs_asg (i := 3) sc_wrong.nd (ge_ix q.hu (ge_var (i := 0)) (ge_int))) (gss_cons (gs_if (gt_cmp (op_eqG q.hq) og_eq (ge_var (i := 3)) (ge_str)) (gss_one (gs_ret (ge_if (gt_isN (ge_var (i := 1))) (ge_lst (ga_nil)) (ge_own q (C .wrong) (ga_cons (ge_ix q.hu (ge_var (i := 0)) (ge_int)) (ga_cons (ge_var (i := 1)) (ga_cons (ge_var (i := 2)) (ga_nil)))))))) (gss_nil)) (gss_cons (gs_if (gt_cmp (op_eqG q.hq) og_eq (ge_var (i := 3)) (ge_str)) (gss_cons (gs_if (gt_w (gw_or (gt_not (gt_val (ge_isi (T := .int) (ge_var (i := 1)) Fc.n_isinstance Fc.n_int PyProof.Rows.boot_int))) (gw_or1 (gt_val (ge_isi (T := .bool) (ge_var (i := 1)) Fc.n_isinstance Fc.n_bool PyProof.Rows.boot_bool))))) (gss_one (gs_ret (ge_lst (ga_cons (ge_tup (ga_cons (ge_var (i := 2)) (ga_cons (ge_str) (ga_nil)))) (ga_nil))))) (gss_nil)) (gss_one (gs_ret (ge_if (gt_cmp op_lt og_lt (ge_var (i := 1)) (ge_ix q.hu (ge_var (i := 0)) (ge_int))) (ge_lst (ga_cons (ge_tup (ga_cons (ge_var (i := 2)) (ga_cons (ge_str) (ga_nil)))) (ga_nil))) (ge_if (gt_cmp op_gt og_gt (ge_var (i := 1)) (ge_ix q.hu (ge_var (i := 0)) (ge_int))) (ge_lst (ga_cons (ge_tup (ga_cons (ge_var (i := 2)) (ga_cons (ge_str) (ga_nil)))) (ga_nil))) (ge_lst (ga_nil))))))) (gss_nil)) (gss_cons (gs_if (gt_cmp (op_inG q.hu) og_in (ge_var (i := 3)) (ge_tup (ga_cons (ge_str) (ga_cons (ge_str) (ga_nil))))) (gss_one (gs_ret (ge_if (gt_val (ge_own q (C .is_one) (ga_cons (ge_var (i := 0)) (ga_cons (ge_var (i := 1)) (ga_nil))))) (ge_lst (ga_nil)) (ge_lst (ga_cons (ge_tup (ga_cons (ge_var (i := 2)) (ga_cons (ge_var (i := 3)) (ga_nil)))) (ga_nil)))))) (gss_nil)) (gss_cons (gs_if (gt_cmp (op_eqG q.hq) og_eq (ge_var (i := 3)) (ge_str)) (gss_cons (gs_if (gt_w (gw_or (gt_not (gt_val (ge_isi (T := .str) (ge_var (i := 1)) Fc.n_isinstance Fc.n_str PyProof.Rows.boot_str))) (gw_or1 (gt_not (gt_val (ge_callB (cr_all rfl) cg_all Fc.n_all PyProof.Rows.boot_all (ga_cons (GN.ge (gn_comp (own := [("sign", 4)]) sc_wrong.nd (gi_seq (ge_var (i := 1))) (blkOk_by (N := ["shape", "thing", "path", "word", "sign"]) (sc := defScope (top 23)) (by decide +kernel)) (fun s1 H1 C1 cl fp => gg_name (i := 4) sc_wrong.nd) (fun s1 H1 C1 cl fp => gts_nil) (fun s1 H1 C1 cl fp => ge_cmp (op_inG (q.blk [] s1 H1 _ _ fp).hu) og_in (ge_var (i := 4)) (ge_gstr Fc.c_LETTERS)))) (ga_nil)))))))) (gss_one (gs_ret (ge_lst (ga_cons (ge_tup (ga_cons (ge_var (i := 2)) (ga_cons (ge_str) (ga_nil)))) (ga_nil))))) (gss_nil)) (gss_one (gs_ret (ge_if (gt_cmp op_gt og_gt (ge_callB call_lenG cg_len Fc.n_len boot_len (ga_cons (ge_var (i := 1)) (ga_nil))) (ge_ix q.hu (ge_var (i := 0)) (ge_int))) (ge_lst (ga_cons (ge_tup (ga_cons (ge_var (i := 2)) (ga_cons (ge_str) (ga_nil)))) (ga_nil))) (ge_lst (ga_nil)))))) (gss_nil)) (gss_cons (gs_if (gt_cmp (op_eqG q.hq) og_eq (ge_var (i := 3)) (ge_str)) (gss_one (gs_ret (ge_own q (C .wrong_list) (ga_cons (ge_var (i := 0)) (ga_cons (ge_var (i := 1)) (ga_cons (ge_var (i := 2)) (ga_nil))))))) (gss_nil)) (gss_one (gs_ret (ge_if (gt_cmp (op_eqG q.hq) og_eq (ge_var (i := 3)) (ge_str)) (ge_own q (C .wrong_kind) (ga_cons (ge_var (i := 0)) (ga_cons (ge_var (i := 1)) (ga_cons (ge_var (i := 2)) (ga_nil))))) (ge_own q (C .wrong_rec) (ga_cons (ge_var (i := 0)) (ga_cons (ge_var (i := 1)) (ga_cons (ge_var (i := 2)) (ga_nil)))))))))))))⟩⟩
theorem w_wrong_list (Fc : Facts w K mg) (C : ∀ f : Fnm, Callee Pg w K mg base k f.nm (s f.nm)) : Bd Pg w K mg base k ["shape", "thing", "path", "found", "k"] "wrong_list" (defScope (top 24)) (defBody (top 24)) (m_wrong_list s) :=
  ⟨fun f cdv A outer s0 H E q hp => ⟨[], gss_cons (gs_if (gt_not (gt_val (ge_isi (T := .list) (ge_var (i := 1)) Fc.n_isinstance Fc.n_list PyProof.Rows.boot_list))) (gss_one (gs_ret (ge_lst (ga_cons (ge_tup (ga_cons (ge_var (i := 2)) (ga_cons (ge_str) (ga_nil)))) (ga_nil))))) (gss_nil)) (gss_cons (gs_asgN (i := 3) sc_wrong_list.nd (gn_if (gt_cmp op_gt og_gt (ge_callB call_lenG cg_len Fc.n_len boot_len (ga_cons (ge_var (i := 1)) (ga_nil))) (ge_ix q.hu (ge_var (i := 0)) (ge_int))) (gn_lst (ga_cons (ge_tup (ga_cons (ge_var (i := 2)) (ga_cons (ge_str) (ga_nil)))) (ga_nil))) (gn_lst (ga_nil)))) (gss_cons (gs_for hp (gi_range1 (ge_callB call_lenG cg_len Fc.n_len boot_len (ga_cons (ge_var (i := 1)) (ga_nil))) Fc.n_range) (gg_name (i := 4) sc_wrong_list.nd) (gss_one (gs_ext (i := 3) (ge_own q (C .wrong) (ga_cons (ge_ix q.hu (ge_var (i := 0)) (ge_int)) (ga_cons (ge_ix q.hu (ge_var (i := 1)) (ge_var (i := 4))) (ga_cons (ge_op op_addG og_add (ge_var (i := 2)) (ge_tup (ga_cons (ge_var (i := 4)) (ga_nil)))) (ga_nil)))))))) (gss_frz [] (gss_one (gs_ret (ge_var (i := 3)))))))⟩⟩
theorem w_wrong_kind (Fc : Facts w K mg) (C : ∀ f : Fnm, Callee Pg w K mg base k f.nm (s f.nm)) : Bd Pg w K mg base k ["shape", "thing", "path", "part"] "wrong_kind" (defScope (top 25)) (defBody (top 25)) (m_wrong_kind s) :=
  ⟨fun f cdv A outer s0 H E q hp => ⟨[], gss_cons (gs_if (gt_w (gw_or (gt_not (gt_val (ge_isi (T := .tuple) (ge_var (i := 1)) Fc.n_isinstance Fc.n_tuple PyProof.Rows.boot_tuple))) (gw_or (gt_cmp (op_neG q.hq) og_ne (ge_callB call_lenG cg_len Fc.n_len boot_len (ga_cons (ge_var (i := 1)) (ga_nil))) (ge_int)) (gw_or1 (gt_not (gt_val (ge_isi (T := .str) (ge_ix q.hu (ge_var (i := 1)) (ge_int)) Fc.n_isinstance Fc.n_str PyProof.Rows.boot_str))))))) (gss_one (gs_ret (ge_lst (ga_cons (ge_tup (ga_cons (ge_var (i := 2)) (ga_cons (ge_str) (ga_nil)))) (ga_nil))))) (gss_nil)) (gss_cons (gs_asg (i := 3) sc_wrong_kind.nd (ge_own q (C .part_of) (ga_cons (ge_var (i := 0)) (ga_cons (ge_ix q.hu (ge_var (i := 1)) (ge_int)) (ga_nil))))) (gss_one (gs_ret (ge_if (gt_isN (ge_var (i := 3))) (ge_lst (ga_cons (ge_tup (ga_cons (ge_var (i := 2)) (ga_cons (ge_str) (ga_nil)))) (ga_nil))) (ge_own q (C .wrong) (ga_cons (ge_var (i := 3)) (ga_cons (ge_ix q.hu (ge_var (i := 1)) (ge_int)) (ga_cons (ge_op op_addG og_add (ge_var (i := 2)) (ge_tup (ga_cons (ge_ix q.hu (ge_var (i := 1)) (ge_int)) (ga_nil)))) (ga_nil)))))))))⟩⟩
theorem w_wrong_rec (Fc : Facts w K mg) (C : ∀ f : Fnm, Callee Pg w K mg base k f.nm (s f.nm)) : Bd Pg w K mg base k ["shape", "thing", "path", "found", "names", "name", "part"] "wrong_rec" (defScope (top 26)) (defBody (top 26)) (m_wrong_rec s) :=
  ⟨fun f cdv A outer s0 H E q hp => ⟨[], gss_cons (gs_if (gt_w (gw_or (gt_not (gt_val (ge_isi (T := .dict) (ge_var (i := 1)) Fc.n_isinstance Fc.n_dict PyProof.Rows.boot_dict))) (gw_or1 (gt_not (gt_val (ge_callB (cr_all rfl) cg_all Fc.n_all PyProof.Rows.boot_all (ga_cons (GN.ge (gn_compK (i := 1) (own := [("name", 5)]) sc_wrong_rec.nd (blkOk_by (N := ["shape", "thing", "path", "found", "names", "name", "part"]) (sc := defScope (top 26)) (by decide +kernel)) (fun s1 H1 C1 cl fp => gg_name (i := 5) sc_wrong_rec.nd) (fun s1 H1 C1 cl fp => gts_nil) (fun s1 H1 C1 cl fp => ge_isi (T := .str) (ge_var (i := 5)) Fc.n_isinstance Fc.n_str PyProof.Rows.boot_str))) (ga_nil)))))))) (gss_one (gs_ret (ge_lst (ga_cons (ge_tup (ga_cons (ge_var (i := 2)) (ga_cons (ge_str) (ga_nil)))) (ga_nil))))) (gss_nil)) (gss_cons (gs_asgN (i := 3) sc_wrong_rec.nd (gn_lst (ga_nil))) (gss_cons (gs_for hp (gi_seq (ge_ix q.hu (ge_var (i := 0)) (ge_int))) (gg_tup (ggs_cons (gg_name (i := 5) sc_wrong_rec.nd) (ggs_cons (gg_name (i := 6) sc_wrong_rec.nd) (ggs_nil)))) (gss_one (gs_if (gt_cmp (op_inG q.hu) og_in (ge_var (i := 5)) (ge_var (i := 1))) (gss_one (gs_ext (i := 3) (ge_own q (C .wrong) (ga_cons (ge_var (i := 6)) (ga_cons (ge_ix q.hu (ge_var (i := 1)) (ge_var (i := 5))) (ga_cons (ge_op op_addG og_add (ge_var (i := 2)) (ge_tup (ga_cons (ge_var (i := 5)) (ga_nil)))) (ga_nil))))))) (gss_one (gs_app (i := 3) (ge_tup (ga_cons (ge_op op_addG og_add (ge_var (i := 2)) (ge_tup (ga_cons (ge_var (i := 5)) (ga_nil)))) (ga_cons (ge_str) (ga_nil))))))))) (gss_cons (gs_asg (i := 4) sc_wrong_rec.nd (GN.ge (gn_comp (own := [("name", 5), ("part", 6)]) sc_wrong_rec.nd (gi_seq (ge_ix q.hu (ge_var (i := 0)) (ge_int))) (blkOk_by (N := ["shape", "thing", "path", "found", "names", "name", "part"]) (sc := defScope (top 26)) (by decide +kernel)) (fun s1 H1 C1 cl fp => gg_tup (ggs_cons (gg_name (i := 5) sc_wrong_rec.nd) (ggs_cons (gg_name (i := 6) sc_wrong_rec.nd) (ggs_nil)))) (fun s1 H1 C1 cl fp => gts_nil) (fun s1 H1 C1 cl fp => ge_var (i := 5))))) (gss_cons (gs_ext (i := 3) (GN.ge (gn_comp (own := [("name", 5)]) sc_wrong_rec.nd (gi_seq (ge_sortKeys (ge_var (i := 1)) Fc.n_sorted)) (blkOk_by (N := ["shape", "thing", "path", "found", "names", "name", "part"]) (sc := defScope (top 26)) (by decide +kernel)) (fun s1 H1 C1 cl fp => gg_name (i := 5) sc_wrong_rec.nd) (fun s1 H1 C1 cl fp => gts_one (gt_cmp (op_notInG (q.blk [3] s1 H1 _ _ fp).hu) og_notIn (ge_var (i := 5)) (ge_var (i := 4)))) (fun s1 H1 C1 cl fp => ge_tup (ga_cons (ge_op op_addG og_add (ge_var (i := 2)) (ge_tup (ga_cons (ge_var (i := 5)) (ga_nil)))) (ga_cons (ge_str) (ga_nil))))))) (gss_frz [] (gss_one (gs_ret (ge_var (i := 3)))))))))⟩⟩
theorem w_law_cell (Fc : Facts w K mg) (C : ∀ f : Fnm, Callee Pg w K mg base k f.nm (s f.nm)) : Bd Pg w K mg base k ["script", "k"] "_law_cell" (defScope (top 28)) (defBody (top 28)) (m_law_cell s) :=
  ⟨fun f cdv A outer s0 H E q hp => ⟨[], gss_cons (gs_if (gt_tru (ge_var (i := 0))) (gss_one (gs_ret (ge_ix q.hu (ge_var (i := 0)) (ge_op op_mod og_mod (ge_var (i := 1)) (ge_callB call_lenG cg_len Fc.n_len boot_len (ga_cons (ge_var (i := 0)) (ga_nil))))))) (gss_nil)) (gss_one (gs_ret (ge_int)))⟩⟩
theorem w_law_mix (Fc : Facts w K mg) (C : ∀ f : Fnm, Callee Pg w K mg base k f.nm (s f.nm)) : Bd Pg w K mg base k ["script", "k", "number"] "_law_mix" (defScope (top 29)) (defBody (top 29)) (m_law_mix s) :=
  ⟨fun f cdv A outer s0 H E q hp => ⟨[], gss_cons (gs_asg (i := 2) sc_law_mix.nd (ge_op op_mod og_mod (ge_op op_addG og_add (ge_own q (C .law_cell) (ga_cons (ge_var (i := 0)) (ga_cons (ge_var (i := 1)) (ga_nil)))) (ge_op op_mulG og_mul (ge_int) (ge_op op_addG og_add (ge_var (i := 1)) (ge_int)))) (ge_int))) (gss_cons (gs_asg (i := 2) sc_law_mix.nd (ge_op op_mod og_mod (ge_op op_pow og_pow (ge_var (i := 2)) (ge_int)) (ge_int))) (gss_one (gs_ret (ge_op op_mod og_mod (ge_op op_addG og_add (ge_op op_mulG og_mul (ge_op op_fdivW og_fdiv (ge_var (i := 2)) (ge_int)) (ge_int)) (ge_var (i := 2))) (ge_int)))))⟩⟩
theorem w_law_draw (Fc : Facts w K mg) (C : ∀ f : Fnm, Callee Pg w K mg base k f.nm (s f.nm)) : Bd Pg w K mg base k ["script", "town", "many"] "_law_draw" (defScope (top 30)) (defBody (top 30)) (m_law_draw s) :=
  ⟨fun f cdv A outer s0 H E q hp => ⟨[], gss_cons (gs_town (i := 1)) (gss_one (gs_ret (ge_op op_mod og_mod (ge_op op_fdivW og_fdiv (ge_own q (C .law_mix) (ga_cons (ge_var (i := 0)) (ga_cons (ge_callB call_lenG cg_len Fc.n_len boot_len (ga_cons (ge_var (i := 1)) (ga_nil))) (ga_nil)))) (ge_int)) (ge_var (i := 2)))))⟩⟩
theorem w_law_pick (Fc : Facts w K mg) (C : ∀ f : Fnm, Callee Pg w K mg base k f.nm (s f.nm)) : Bd Pg w K mg base k ["script", "town", "some"] "_law_pick" (defScope (top 31)) (defBody (top 31)) (m_law_pick s) :=
  ⟨fun f cdv A outer s0 H E q hp => ⟨[], gss_one (gs_ret (ge_ix q.hu (ge_var (i := 2)) (ge_own q (C .law_draw) (ga_cons (ge_var (i := 0)) (ga_cons (ge_var (i := 1)) (ga_cons (ge_callB call_lenG cg_len Fc.n_len boot_len (ga_cons (ge_var (i := 2)) (ga_nil))) (ga_nil)))))))⟩⟩
theorem w_law_word (Fc : Facts w K mg) (C : ∀ f : Fnm, Callee Pg w K mg base k f.nm (s f.nm)) : Bd Pg w K mg base k ["script", "town", "signs", "k"] "_law_word" (defScope (top 32)) (defBody (top 32)) (m_law_word s) :=
  ⟨fun f cdv A outer s0 H E q hp => ⟨[], gss_cons (gs_asg (i := 2) sc_law_word.nd (ge_str)) (gss_cons (gs_if (gt_cmp op_gt og_gt (ge_own q (C .law_draw) (ga_cons (ge_var (i := 0)) (ga_cons (ge_var (i := 1)) (ga_cons (ge_int) (ga_nil))))) (ge_int)) (gss_one (gs_ret (ge_own q (C .law_pick) (ga_cons (ge_var (i := 0)) (ga_cons (ge_var (i := 1)) (ga_cons (ge_lst (ga_cons (ge_str) (ga_cons (ge_str) (ga_cons (ge_str) (ga_cons (ge_str) (ga_cons (ge_str) (ga_cons (ge_str) (ga_nil)))))))) (ga_nil))))))) (gss_nil)) (gss_one (gs_ret (ge_join (ge_str) (GN.ge (gn_comp (own := [("k", 3)]) sc_law_word.nd (gi_range1 (ge_op op_addG og_add (ge_int) (ge_own q (C .law_draw) (ga_cons (ge_var (i := 0)) (ga_cons (ge_var (i := 1)) (ga_cons (ge_int) (ga_nil)))))) Fc.n_range) (blkOk_by (N := ["script", "town", "signs", "k"]) (sc := defScope (top 32)) (by decide +kernel)) (fun s1 H1 C1 cl fp => gg_name (i := 3) sc_law_word.nd) (fun s1 H1 C1 cl fp => gts_nil) (fun s1 H1 C1 cl fp => ge_ix (q.blk [] s1 H1 _ _ fp).hu (ge_var (i := 2)) (ge_own (q.blk [] s1 H1 _ _ fp) (C .law_draw) (ga_cons (ge_var (i := 0)) (ga_cons (ge_var (i := 1)) (ga_cons (ge_int) (ga_nil))))))))))))⟩⟩
theorem w_law_words (Fc : Facts w K mg) (C : ∀ f : Fnm, Callee Pg w K mg base k f.nm (s f.nm)) : Bd Pg w K mg base k ["script", "town", "least_many", "found", "k"] "_law_words" (defScope (top 33)) (defBody (top 33)) (m_law_words s) :=
  ⟨fun f cdv A outer s0 H E q hp => ⟨[], gss_cons (gs_asgN (i := 3) sc_law_words.nd (gn_dct0)) (gss_cons (gs_for hp (gi_range1 (ge_op op_addG og_add (ge_var (i := 2)) (ge_own q (C .law_draw) (ga_cons (ge_var (i := 0)) (ga_cons (ge_var (i := 1)) (ga_cons (ge_int) (ga_nil)))))) Fc.n_range) (gg_name (i := 4) sc_law_words.nd) (gss_one (gs_put (i := 3) q.hu (ge_own q (C .law_word) (ga_cons (ge_var (i := 0)) (ga_cons (ge_var (i := 1)) (ga_nil)))) (ge_bl)))) (gss_frz [] (gss_one (gs_ret (ge_sl (ge_listKeys (ge_var (i := 3)) Fc.n_list) go_none (go_some (ge_int)))))))⟩⟩
theorem w_law_shape (Fc : Facts w K mg) (C : ∀ f : Fnm, Callee Pg w K mg base k f.nm (s f.nm)) : Bd Pg w K mg base k ["script", "town", "deep", "wide", "sort", "names_now", "parts", "low", "inner", "name"] "_law_shape" (defScope (top 34)) (defBody (top 34)) (m_law_shape s) :=
  ⟨fun f cdv A outer s0 H E q hp => ⟨[], gss_cons (gs_asg (i := 4) sc_law_shape.nd (ge_own q (C .law_draw) (ga_cons (ge_var (i := 0)) (ga_cons (ge_var (i := 1)) (ga_cons (ge_if (gt_cmp op_gt og_gt (ge_var (i := 2)) (ge_int)) (ge_int) (ge_int)) (ga_nil)))))) (gss_cons (gs_if (gt_cmp (op_eqG q.hq) og_eq (ge_var (i := 4)) (ge_int)) (gss_cons (gs_asg (i := 7) sc_law_shape.nd (ge_own q (C .law_pick) (ga_cons (ge_var (i := 0)) (ga_cons (ge_var (i := 1)) (ga_cons (ge_lst (ga_cons (ge_int) (ga_cons (ge_int) (ga_cons (ge_op op_sub og_sub (ge_int) (ge_int)) (ga_cons (ge_if (gt_tru (ge_var (i := 3))) (ge_op op_sub og_sub (ge_int) (ge_int)) (ge_op op_sub og_sub (ge_int) (ge_int))) (ga_nil)))))) (ga_nil)))))) (gss_one (gs_ret (ge_tup (ga_cons (ge_str) (ga_cons (ge_var (i := 7)) (ga_cons (ge_op op_addG og_add (ge_var (i := 7)) (ge_own q (C .law_pick) (ga_cons (ge_var (i := 0)) (ga_cons (ge_var (i := 1)) (ga_cons (ge_lst (ga_cons (ge_int) (ga_cons (ge_int) (ga_cons (ge_int) (ga_cons (ge_if (gt_tru (ge_var (i := 3))) (ge_int) (ge_int)) (ga_nil)))))) (ga_nil)))))) (ga_nil)))))))) (gss_nil)) (gss_cons (gs_if (gt_cmp (op_eqG q.hq) og_eq (ge_var (i := 4)) (ge_int)) (gss_one (gs_ret (ge_tup (ga_cons (ge_str) (ga_nil))))) (gss_nil)) (gss_cons (gs_if (gt_cmp (op_eqG q.hq) og_eq (ge_var (i := 4)) (ge_int)) (gss_one (gs_ret (ge_tup (ga_cons (ge_str) (ga_cons (ge_callT call_tuple_of cg_tuple Fc.n_tuple PyProof.Rows.boot_tuple (ga_cons (ge_own q (C .law_words) (ga_cons (ge_var (i := 0)) (ga_cons (ge_var (i := 1)) (ga_cons (ge_int) (ga_nil))))) (ga_nil))) (ga_nil)))))) (gss_nil)) (gss_cons (gs_if (gt_cmp (op_eqG q.hq) og_eq (ge_var (i := 4)) (ge_int)) (gss_one (gs_ret (ge_tup (ga_cons (ge_str) (ga_cons (ge_own q (C .law_draw) (ga_cons (ge_var (i := 0)) (ga_cons (ge_var (i := 1)) (ga_cons (ge_if (gt_tru (ge_var (i := 3))) (ge_int) (ge_int)) (ga_nil))))) (ga_nil)))))) (gss_nil)) (gss_cons (gs_if (gt_cmp (op_eqG q.hq) og_eq (ge_var (i := 4)) (ge_int)) (gss_one (gs_ret (ge_tup (ga_cons (ge_str) (ga_cons (ge_own q (C .law_shape) (ga_cons (ge_var (i := 0)) (ga_cons (ge_var (i := 1)) (ga_cons (ge_op op_sub og_sub (ge_var (i := 2)) (ge_int)) (ga_cons (ge_var (i := 3)) (ga_nil)))))) (ga_cons (ge_own q (C .law_draw) (ga_cons (ge_var (i := 0)) (ga_cons (ge_var (i := 1)) (ga_cons (ge_if (gt_tru (ge_var (i := 3))) (ge_int) (ge_int)) (ga_nil))))) (ga_nil))))))) (gss_nil)) (gss_cons (gs_if (gt_cmp (op_eqG q.hq) og_eq (ge_var (i := 4)) (ge_int)) (gss_cons (gs_asg (i := 8) sc_law_shape.nd (ge_own q (C .law_shape) (ga_cons (ge_var (i := 0)) (ga_cons (ge_var (i := 1)) (ga_cons (ge_op op_sub og_sub (ge_var (i := 2)) (ge_int)) (ga_cons (ge_var (i := 3)) (ga_nil))))))) (gss_one (gs_ret (ge_if (gt_cmp (op_eqG q.hq) og_eq (ge_ix q.hu (ge_var (i := 8)) (ge_int)) (ge_str)) (ge_var (i := 8)) (ge_tup (ga_cons (ge_str) (ga_cons (ge_var (i := 8)) (ga_nil)))))))) (gss_nil)) (gss_cons (gs_asg (i := 5) sc_law_shape.nd (ge_own q (C .law_words) (ga_cons (ge_var (i := 0)) (ga_cons (ge_var (i := 1)) (ga_cons (ge_callT call_int1 cg_int Fc.n_int PyProof.Rows.boot_int (ga_cons (ge_cmp op_gt og_gt (ge_var (i := 4)) (ge_int)) (ga_nil))) (ga_nil)))))) (gss_cons (gs_asg (i := 6) sc_law_shape.nd (ge_callT call_tuple_of cg_tuple Fc.n_tuple PyProof.Rows.boot_tuple (ga_cons (GN.ge (gn_comp (own := [("name", 9)]) sc_law_shape.nd (gi_seq (ge_var (i := 5))) (blkOk_by (N := ["script", "town", "deep", "wide", "sort", "names_now", "parts", "low", "inner", "name"]) (sc := defScope (top 34)) (by decide +kernel)) (fun s1 H1 C1 cl fp => gg_name (i := 9) sc_law_shape.nd) (fun s1 H1 C1 cl fp => gts_nil) (fun s1 H1 C1 cl fp => ge_tup (ga_cons (ge_var (i := 9)) (ga_cons (ge_own (q.blk [] s1 H1 _ _ fp) (C .law_shape) (ga_cons (ge_var (i := 0)) (ga_cons (ge_var (i := 1)) (ga_cons (ge_op op_sub og_sub (ge_var (i := 2)) (ge_int)) (ga_cons (ge_var (i := 3)) (ga_nil)))))) (ga_nil)))))) (ga_nil)))) (gss_one (gs_ret (ge_if (gt_cmp op_gt og_gt (ge_var (i := 4)) (ge_int)) (ge_tup (ga_cons (ge_str) (ga_cons (ge_var (i := 6)) (ga_nil)))) (ge_tup (ga_cons (ge_str) (ga_cons (ge_var (i := 6)) (ga_nil)))))))))))))))⟩⟩
theorem w_law_thing (Fc : Facts w K mg) (C : ∀ f : Fnm, Callee Pg w K mg base k f.nm (s f.nm)) : Bd Pg w K mg base k ["script", "town", "shape", "word", "found", "within_it", "is_none", "name", "part", "k"] "_law_thing" (defScope (top 35)) (defBody (top 35)) (m_law_thing s) :=
  ⟨fun f cdv A outer s0 H E q hp => ⟨[], gss_cons (gs_asg (i := 3) sc_law_thing.nd (ge_ix q.hu (ge_var (i := 2)) (ge_int))) (gss_cons (gs_if (gt_cmp (op_eqG q.hq) og_eq (ge_var (i := 3)) (ge_str)) (gss_cons (gs_asg (i := 5) sc_law_thing.nd (ge_op op_addG og_add (ge_ix q.hu (ge_var (i := 2)) (ge_int)) (ge_own q (C .law_draw) (ga_cons (ge_var (i := 0)) (ga_cons (ge_var (i := 1)) (ga_cons (ge_op op_addG og_add (ge_op op_sub og_sub (ge_ix q.hu (ge_var (i := 2)) (ge_int)) (ge_ix q.hu (ge_var (i := 2)) (ge_int))) (ge_int)) (ga_nil))))))) (gss_one (gs_ret (ge_own q (C .law_pick) (ga_cons (ge_var (i := 0)) (ga_cons (ge_var (i := 1)) (ga_cons (ge_lst (ga_cons (ge_ix q.hu (ge_var (i := 2)) (ge_int)) (ga_cons (ge_ix q.hu (ge_var (i := 2)) (ge_int)) (ga_cons (ge_var (i := 5)) (ga_nil))))) (ga_nil)))))))) (gss_nil)) (gss_cons (gs_if (gt_cmp (op_eqG q.hq) og_eq (ge_var (i := 3)) (ge_str)) (gss_one (gs_ret (ge_cmp (op_eqG q.hq) og_eq (ge_own q (C .law_draw) (ga_cons (ge_var (i := 0)) (ga_cons (ge_var (i := 1)) (ga_cons (ge_int) (ga_nil))))) (ge_int)))) (gss_nil)) (gss_cons (gs_if (gt_cmp (op_eqG q.hq) og_eq (ge_var (i := 3)) (ge_str)) (gss_one (gs_ret (ge_own q (C .law_pick) (ga_cons (ge_var (i := 0)) (ga_cons (ge_var (i := 1)) (ga_cons (ge_ix q.hu (ge_var (i := 2)) (ge_int)) (ga_nil))))))) (gss_nil)) (gss_cons (gs_if (gt_cmp (op_eqG q.hq) og_eq (ge_var (i := 3)) (ge_str)) (gss_one (gs_ret (ge_join (ge_str) (GN.ge (gn_comp (own := [("k", 9)]) sc_law_thing.nd (gi_range1 (ge_own q (C .law_draw) (ga_cons (ge_var (i := 0)) (ga_cons (ge_var (i := 1)) (ga_cons (ge_op op_addG og_add (ge_ix q.hu (ge_var (i := 2)) (ge_int)) (ge_int)) (ga_nil))))) Fc.n_range) (blkOk_by (N := ["script", "town", "shape", "word", "found", "within_it", "is_none", "name", "part", "k"]) (sc := defScope (top 35)) (by decide +kernel)) (fun s1 H1 C1 cl fp => gg_name (i := 9) sc_law_thing.nd) (fun s1 H1 C1 cl fp => gts_nil) (fun s1 H1 C1 cl fp => ge_own (q.blk [] s1 H1 _ _ fp) (C .law_pick) (ga_cons (ge_var (i := 0)) (ga_cons (ge_var (i := 1)) (ga_cons (ge_str) (ga_nil)))))))))) (gss_nil)) (gss_cons (gs_if (gt_cmp (op_eqG q.hq) og_eq (ge_var (i := 3)) (ge_str)) (gss_one (gs_ret (GN.ge (gn_comp (own := [("k", 9)]) sc_law_thing.nd (gi_range1 (ge_own q (C .law_draw) (ga_cons (ge_var (i := 0)) (ga_cons (ge_var (i := 1)) (ga_cons (ge_op op_addG og_add (ge_ix q.hu (ge_var (i := 2)) (ge_int)) (ge_int)) (ga_nil))))) Fc.n_range) (blkOk_by (N := ["script", "town", "shape", "word", "found", "within_it", "is_none", "name", "part", "k"]) (sc := defScope (top 35)) (by decide +kernel)) (fun s1 H1 C1 cl fp => gg_name (i := 9) sc_law_thing.nd) (fun s1 H1 C1 cl fp => gts_nil) (fun s1 H1 C1 cl fp => ge_own (q.blk [] s1 H1 _ _ fp) (C .law_thing) (ga_cons (ge_var (i := 0)) (ga_cons (ge_var (i := 1)) (ga_cons (ge_ix (q.blk [] s1 H1 _ _ fp).hu (ge_var (i := 2)) (ge_int)) (ga_nil))))))))) (gss_nil)) (gss_cons (gs_if (gt_cmp (op_eqG q.hq) og_eq (ge_var (i := 3)) (ge_str)) (gss_cons (gs_asg (i := 6) sc_law_thing.nd (ge_cmp (op_eqG q.hq) og_eq (ge_own q (C .law_draw) (ga_cons (ge_var (i := 0)) (ga_cons (ge_var (i := 1)) (ga_cons (ge_int) (ga_nil))))) (ge_int))) (gss_one (gs_ret (ge_if (gt_tru (ge_var (i := 6))) (ge_non) (ge_own q (C .law_thing) (ga_cons (ge_var (i := 0)) (ga_cons (ge_var (i := 1)) (ga_cons (ge_ix q.hu (ge_var (i := 2)) (ge_int)) (ga_nil))))))))) (gss_nil)) (gss_cons (gs_if (gt_cmp (op_eqG q.hq) og_eq (ge_var (i := 3)) (ge_str)) (gss_cons (gs_un (ge_own q (C .law_pick) (ga_cons (ge_var (i := 0)) (ga_cons (ge_var (i := 1)) (ga_cons (ge_ix q.hu (ge_var (i := 2)) (ge_int)) (ga_nil))))) (gg_tup (ggs_cons (gg_name (i := 7) sc_law_thing.nd) (ggs_cons (gg_name (i := 8) sc_law_thing.nd) (ggs_nil))))) (gss_one (gs_ret (ge_tup (ga_cons (ge_var (i := 7)) (ga_cons (ge_own q (C .law_thing) (ga_cons (ge_var (i := 0)) (ga_cons (ge_var (i := 1)) (ga_cons (ge_var (i := 8)) (ga_nil))))) (ga_nil))))))) (gss_nil)) (gss_cons (gs_asgN (i := 4) sc_law_thing.nd (gn_dct0)) (gss_cons (gs_for hp (gi_seq (ge_ix q.hu (ge_var (i := 2)) (ge_int))) (gg_tup (ggs_cons (gg_name (i := 7) sc_law_thing.nd) (ggs_cons (gg_name (i := 8) sc_law_thing.nd) (ggs_nil)))) (gss_one (gs_put (i := 4) q.hu (ge_var (i := 7)) (ge_own q (C .law_thing) (ga_cons (ge_var (i := 0)) (ga_cons (ge_var (i := 1)) (ga_cons (ge_var (i := 8)) (ga_nil)))))))) (gss_frz [] (gss_one (gs_ret (ge_var (i := 4))))))))))))))⟩⟩
theorem w_law_same (Fc : Facts w K mg) (C : ∀ f : Fnm, Callee Pg w K mg base k f.nm (s f.nm)) : Bd Pg w K mg base k ["one", "other", "name", "k"] "_law_same" (defScope (top 36)) (defBody (top 36)) (m_law_same s) :=
  ⟨fun f cdv A outer s0 H E q hp => ⟨[], gss_cons (gs_if (gt_w (gw_and (gt_val (ge_isi (T := .dict) (ge_var (i := 0)) Fc.n_isinstance Fc.n_dict PyProof.Rows.boot_dict)) (gw_and1 (gt_val (ge_isi (T := .dict) (ge_var (i := 1)) Fc.n_isinstance Fc.n_dict PyProof.Rows.boot_dict))))) (gss_cons (gs_if (gt_cmp (op_neG q.hq) og_ne (ge_sortKeys (ge_var (i := 0)) Fc.n_sorted) (ge_sortKeys (ge_var (i := 1)) Fc.n_sorted)) (gss_one (gs_ret (ge_bl))) (gss_nil)) (gss_one (gs_ret (ge_cmp (op_eqG q.hq) og_eq (ge_callB call_lenG cg_len Fc.n_len boot_len (ga_cons (GN.ge (gn_comp (own := [("name", 2)]) sc_law_same.nd (gi_seq (ge_listKeys (ge_var (i := 0)) Fc.n_list)) (blkOk_by (N := ["one", "other", "name", "k"]) (sc := defScope (top 36)) (by decide +kernel)) (fun s1 H1 C1 cl fp => gg_name (i := 2) sc_law_same.nd) (fun s1 H1 C1 cl fp => gts_one (gt_not (gt_val (ge_own (q.blk [] s1 H1 _ _ fp) (C .law_same) (ga_cons (ge_ix (q.blk [] s1 H1 _ _ fp).hu (ge_var (i := 0)) (ge_var (i := 2))) (ga_cons (ge_ix (q.blk [] s1 H1 _ _ fp).hu (ge_var (i := 1)) (ge_var (i := 2))) (ga_nil))))))) (fun s1 H1 C1 cl fp => ge_var (i := 2)))) (ga_nil))) (ge_int))))) (gss_nil)) (gss_cons (gs_if (gt_w (gw_or (gt_w (gw_and (gt_val (ge_isi (T := .list) (ge_var (i := 0)) Fc.n_isinstance Fc.n_list PyProof.Rows.boot_list)) (gw_and1 (gt_val (ge_isi (T := .list) (ge_var (i := 1)) Fc.n_isinstance Fc.n_list PyProof.Rows.boot_list))))) (gw_or1 (gt_w (gw_and (gt_val (ge_isi (T := .tuple) (ge_var (i := 0)) Fc.n_isinstance Fc.n_tuple PyProof.Rows.boot_tuple)) (gw_and1 (gt_val (ge_isi (T := .tuple) (ge_var (i := 1)) Fc.n_isinstance Fc.n_tuple PyProof.Rows.boot_tuple)))))))) (gss_one (gs_ret (ge_and (ge_cmp (op_eqG q.hq) og_eq (ge_callB call_lenG cg_len Fc.n_len boot_len (ga_cons (ge_var (i := 0)) (ga_nil))) (ge_callB call_lenG cg_len Fc.n_len boot_len (ga_cons (ge_var (i := 1)) (ga_nil)))) (ge_one (ge_callB (cr_all rfl) cg_all Fc.n_all PyProof.Rows.boot_all (ga_cons (GN.ge (gn_comp (own := [("k", 3)]) sc_law_same.nd (gi_range1 (ge_callB call_lenG cg_len Fc.n_len boot_len (ga_cons (ge_var (i := 0)) (ga_nil))) Fc.n_range) (blkOk_by (N := ["one", "other", "name", "k"]) (sc := defScope (top 36)) (by decide +kernel)) (fun s1 H1 C1 cl fp => gg_name (i := 3) sc_law_same.nd) (fun s1 H1 C1 cl fp => gts_nil) (fun s1 H1 C1 cl fp => ge_own (q.blk [] s1 H1 _ _ fp) (C .law_same) (ga_cons (ge_ix (q.blk [] s1 H1 _ _ fp).hu (ge_var (i := 0)) (ge_var (i := 3))) (ga_cons (ge_ix (q.blk [] s1 H1 _ _ fp).hu (ge_var (i := 1)) (ge_var (i := 3))) (ga_nil)))))) (ga_nil))))))) (gss_nil)) (gss_one (gs_ret (ge_and (ge_cmp (op_eqG q.hq) og_eq (ge_var (i := 0)) (ge_var (i := 1))) (ge_one (ge_cmp (op_eqG q.hq) og_eq (ge_isi (T := .bool) (ge_var (i := 0)) Fc.n_isinstance Fc.n_bool PyProof.Rows.boot_bool) (ge_isi (T := .bool) (ge_var (i := 1)) Fc.n_isinstance Fc.n_bool PyProof.Rows.boot_bool)))))))⟩⟩
theorem w_law_part (Fc : Facts w K mg) (C : ∀ f : Fnm, Callee Pg w K mg base k f.nm (s f.nm)) : Bd Pg w K mg base k ["shape", "name", "some", "one", "part"] "_law_part" (defScope (top 37)) (defBody (top 37)) (m_law_part s) :=
  ⟨fun f cdv A outer s0 H E q hp => ⟨[], gss_cons (gs_asgLc (i := 2) (own := [("one", 3), ("part", 4)]) sc_law_part.nd (gi_seq (ge_ix q.hu (ge_var (i := 0)) (ge_int))) (blkOk_by (N := ["shape", "name", "some", "one", "part"]) (sc := defScope (top 37)) (by decide +kernel)) (fun s1 H1 C1 cl fp => gg_tup (ggs_cons (gg_name (i := 3) sc_law_part.nd) (ggs_cons (gg_name (i := 4) sc_law_part.nd) (ggs_nil)))) (fun s1 H1 C1 cl fp => gts_one (gt_val (ge_own (q.blk [] s1 H1 _ _ fp) (C .law_same) (ga_cons (ge_var (i := 3)) (ga_cons (ge_var (i := 1)) (ga_nil)))))) (fun s1 H1 C1 cl fp => ge_var (i := 4))) (gss_one (gs_ret (ge_if (gt_cmp (op_neG q.hq) og_ne (ge_var (i := 2)) (ge_lst (ga_nil))) (ge_ix q.hu (ge_var (i := 2)) (ge_int)) (ge_non))))⟩⟩
theorem w_law_wrong (Fc : Facts w K mg) (C : ∀ f : Fnm, Callee Pg w K mg base k f.nm (s f.nm)) : Bd Pg w K mg base k ["shape", "thing", "path", "word", "found", "k", "told", "name", "part"] "_law_wrong" (defScope (top 38)) (defBody (top 38)) (m_law_wrong s) :=
  ⟨fun f cdv A outer s0 H E q hp => ⟨[], gss_cons (gs_asg (i := 3) sc_law_wrong.nd (ge_ix q.hu (ge_var (i := 0)) (ge_int))) (gss_cons (gs_if (gt_cmp (op_eqG q.hq) og_eq (ge_var (i := 3)) (ge_str)) (gss_one (gs_ret (ge_if (gt_notN (ge_var (i := 1))) (ge_own q (C .law_wrong) (ga_cons (ge_ix q.hu (ge_var (i := 0)) (ge_int)) (ga_cons (ge_var (i := 1)) (ga_cons (ge_var (i := 2)) (ga_nil))))) (ge_lst (ga_nil))))) (gss_nil)) (gss_cons (gs_if (gt_cmp (op_eqG q.hq) og_eq (ge_var (i := 3)) (ge_str)) (gss_cons (gs_if (gt_not (gt_val (ge_isi (T := .list) (ge_var (i := 1)) Fc.n_isinstance Fc.n_list PyProof.Rows.boot_list))) (gss_one (gs_ret (ge_lst (ga_cons (ge_tup (ga_cons (ge_var (i := 2)) (ga_cons (ge_str) (ga_nil)))) (ga_nil))))) (gss_nil)) (gss_cons (gs_asg (i := 4) sc_law_wrong.nd (ge_op op_mulG og_mul (ge_lst (ga_cons (ge_tup (ga_cons (ge_var (i := 2)) (ga_cons (ge_str) (ga_nil)))) (ga_nil))) (ge_callT call_int1 cg_int Fc.n_int PyProof.Rows.boot_int (ga_cons (ge_cmp op_gt og_gt (ge_callB call_lenG cg_len Fc.n_len boot_len (ga_cons (ge_var (i := 1)) (ga_nil))) (ge_ix q.hu (ge_var (i := 0)) (ge_int))) (ga_nil))))) (gss_cons (gs_for hp (gi_range1 (ge_callB call_lenG cg_len Fc.n_len boot_len (ga_cons (ge_var (i := 1)) (ga_nil))) Fc.n_range) (gg_name (i := 5) sc_law_wrong.nd) (gss_one (gs_asg (i := 4) sc_law_wrong.nd (ge_op op_addG og_add (ge_var (i := 4)) (ge_own q (C .law_wrong) (ga_cons (ge_ix q.hu (ge_var (i := 0)) (ge_int)) (ga_cons (ge_ix q.hu (ge_var (i := 1)) (ge_var (i := 5))) (ga_cons (ge_op op_addG og_add (ge_var (i := 2)) (ge_tup (ga_cons (ge_var (i := 5)) (ga_nil)))) (ga_nil))))))))) (gss_one (gs_ret (ge_var (i := 4))))))) (gss_nil)) (gss_cons (gs_if (gt_cmp (op_eqG q.hq) og_eq (ge_var (i := 3)) (ge_str)) (gss_cons (gs_if (gt_w (gw_or (gt_not (gt_val (ge_isi (T := .tuple) (ge_var (i := 1)) Fc.n_isinstance Fc.n_tuple PyProof.Rows.boot_tuple))) (gw_or (gt_cmp (op_neG q.hq) og_ne (ge_callB call_lenG cg_len Fc.n_len boot_len (ga_cons (ge_var (i := 1)) (ga_nil))) (ge_int)) (gw_or1 (gt_isN (ge_own q (C .law_part) (ga_cons (ge_var (i := 0)) (ga_cons (ge_ix q.hu (ge_var (i := 1)) (ge_int)) (ga_nil))))))))) (gss_one (gs_ret (ge_lst (ga_cons (ge_tup (ga_cons (ge_var (i := 2)) (ga_cons (ge_str) (ga_nil)))) (ga_nil))))) (gss_nil)) (gss_one (gs_ret (ge_own q (C .law_wrong) (ga_cons (ge_own q (C .law_part) (ga_cons (ge_var (i := 0)) (ga_cons (ge_ix q.hu (ge_var (i := 1)) (ge_int)) (ga_nil)))) (ga_cons (ge_ix q.hu (ge_var (i := 1)) (ge_int)) (ga_cons (ge_op op_addG og_add (ge_var (i := 2)) (ge_tup (ga_cons (ge_ix q.hu (ge_var (i := 1)) (ge_int)) (ga_nil)))) (ga_nil)))))))) (gss_nil)) (gss_cons (gs_if (gt_cmp (op_eqG q.hq) og_eq (ge_var (i := 3)) (ge_str)) (gss_cons (gs_if (gt_not (gt_val (ge_isi (T := .dict) (ge_var (i := 1)) Fc.n_isinstance Fc.n_dict PyProof.Rows.boot_dict))) (gss_one (gs_ret (ge_lst (ga_cons (ge_tup (ga_cons (ge_var (i := 2)) (ga_cons (ge_str) (ga_nil)))) (ga_nil))))) (gss_nil)) (gss_cons (gs_if (gt_cmp (op_neG q.hq) og_ne (GN.ge (gn_comp (own := [("name", 7)]) sc_law_wrong.nd (gi_seq (ge_listKeys (ge_var (i := 1)) Fc.n_list)) (blkOk_by (N := ["shape", "thing", "path", "word", "found", "k", "told", "name", "part"]) (sc := defScope (top 38)) (by decide +kernel)) (fun s1 H1 C1 cl fp => gg_name (i := 7) sc_law_wrong.nd) (fun s1 H1 C1 cl fp => gts_one (gt_not (gt_val (ge_isi (T := .str) (ge_var (i := 7)) Fc.n_isinstance Fc.n_str PyProof.Rows.boot_str)))) (fun s1 H1 C1 cl fp => ge_var (i := 7)))) (ge_lst (ga_nil))) (gss_one (gs_ret (ge_lst (ga_cons (ge_tup (ga_cons (ge_var (i := 2)) (ga_cons (ge_str) (ga_nil)))) (ga_nil))))) (gss_nil)) (gss_cons (gs_asgN (i := 4) sc_law_wrong.nd (gn_lst (ga_nil))) (gss_cons (gs_for hp (gi_seq (ge_ix q.hu (ge_var (i := 0)) (ge_int))) (gg_tup (ggs_cons (gg_name (i := 7) sc_law_wrong.nd) (ggs_cons (gg_name (i := 8) sc_law_wrong.nd) (ggs_nil)))) (gss_one (gs_if (gt_cmp (op_inG q.hu) og_in (ge_var (i := 7)) (ge_var (i := 1))) (gss_frz [] (gss_one (gs_asgN (i := 4) sc_law_wrong.nd (gn_cat (ge_var (i := 4)) (ge_own q (C .law_wrong) (ga_cons (ge_var (i := 8)) (ga_cons (ge_ix q.hu (ge_var (i := 1)) (ge_var (i := 7))) (ga_cons (ge_op op_addG og_add (ge_var (i := 2)) (ge_tup (ga_cons (ge_var (i := 7)) (ga_nil)))) (ga_nil))))))))) (gss_one (gs_app (i := 4) (ge_tup (ga_cons (ge_op op_addG og_add (ge_var (i := 2)) (ge_tup (ga_cons (ge_var (i := 7)) (ga_nil)))) (ga_cons (ge_str) (ga_nil))))))))) (gss_cons (gs_asg (i := 6) sc_law_wrong.nd (GN.ge (gn_comp (own := [("name", 7), ("part", 8)]) sc_law_wrong.nd (gi_seq (ge_ix q.hu (ge_var (i := 0)) (ge_int))) (blkOk_by (N := ["shape", "thing", "path", "word", "found", "k", "told", "name", "part"]) (sc := defScope (top 38)) (by decide +kernel)) (fun s1 H1 C1 cl fp => gg_tup (ggs_cons (gg_name (i := 7) sc_law_wrong.nd) (ggs_cons (gg_name (i := 8) sc_law_wrong.nd) (ggs_nil)))) (fun s1 H1 C1 cl fp => gts_nil) (fun s1 H1 C1 cl fp => ge_var (i := 7))))) (gss_frz [] (gss_one (gs_ret (ge_op op_addG og_add (ge_var (i := 4)) (GN.ge (gn_comp (own := [("name", 7)]) sc_law_wrong.nd (gi_seq (ge_sortKeys (ge_var (i := 1)) Fc.n_sorted)) (blkOk_by (N := ["shape", "thing", "path", "word", "found", "k", "told", "name", "part"]) (sc := defScope (top 38)) (by decide +kernel)) (fun s1 H1 C1 cl fp => gg_name (i := 7) sc_law_wrong.nd) (fun s1 H1 C1 cl fp => gts_one (gt_cmp (op_notInG (q.blk [] s1 H1 _ _ fp).hu) og_notIn (ge_var (i := 7)) (ge_var (i := 6)))) (fun s1 H1 C1 cl fp => ge_tup (ga_cons (ge_op op_addG og_add (ge_var (i := 2)) (ge_tup (ga_cons (ge_var (i := 7)) (ga_nil)))) (ga_cons (ge_str) (ga_nil))))))))))))))) (gss_nil)) (gss_one (gs_ret (ge_own q (C .law_plain) (ga_cons (ge_var (i := 0)) (ga_cons (ge_var (i := 1)) (ga_cons (ge_var (i := 2)) (ga_nil)))))))))))⟩⟩
theorem w_law_plain (Fc : Facts w K mg) (C : ∀ f : Fnm, Callee Pg w K mg base k f.nm (s f.nm)) : Bd Pg w K mg base k ["shape", "thing", "path", "word", "sign"] "_law_plain" (defScope (top 39)) (defBody (top 39)) (m_law_plain s) :=
  ⟨fun f cdv A outer s0 H E q hp => ⟨[], gss_cons (gs_asg (i := 3) sc_law_plain.nd (ge_ix q.hu (ge_var (i := 0)) (ge_int))) (gss_cons (gs_if (gt_cmp (op_eqG q.hq) og_eq (ge_var (i := 3)) (ge_str)) (gss_one (gs_ret (ge_if (gt_val (ge_isi (T := .bool) (ge_var (i := 1)) Fc.n_isinstance Fc.n_bool PyProof.Rows.boot_bool)) (ge_lst (ga_nil)) (ge_lst (ga_cons (ge_tup (ga_cons (ge_var (i := 2)) (ga_cons (ge_str) (ga_nil)))) (ga_nil)))))) (gss_nil)) (gss_cons (gs_if (gt_cmp (op_eqG q.hq) og_eq (ge_var (i := 3)) (ge_str)) (gss_cons (gs_if (gt_w (gw_or (gt_val (ge_isi (T := .bool) (ge_var (i := 1)) Fc.n_isinstance Fc.n_bool PyProof.Rows.boot_bool)) (gw_or1 (gt_not (gt_val (ge_isi (T := .int) (ge_var (i := 1)) Fc.n_isinstance Fc.n_int PyProof.Rows.boot_int)))))) (gss_one (gs_ret (ge_lst (ga_cons (ge_tup (ga_cons (ge_var (i := 2)) (ga_cons (ge_str) (ga_nil)))) (ga_nil))))) (gss_nil)) (gss_one (gs_ret (ge_op op_addG og_add (ge_op op_mulG og_mul (ge_lst (ga_cons (ge_tup (ga_cons (ge_var (i := 2)) (ga_cons (ge_str) (ga_nil)))) (ga_nil))) (ge_callT call_int1 cg_int Fc.n_int PyProof.Rows.boot_int (ga_cons (ge_cmp op_lt og_lt (ge_var (i := 1)) (ge_ix q.hu (ge_var (i := 0)) (ge_int))) (ga_nil)))) (ge_op op_mulG og_mul (ge_lst (ga_cons (ge_tup (ga_cons (ge_var (i := 2)) (ga_cons (ge_str) (ga_nil)))) (ga_nil))) (ge_callT call_int1 cg_int Fc.n_int PyProof.Rows.boot_int (ga_cons (ge_cmp op_gt og_gt (ge_var (i := 1)) (ge_ix q.hu (ge_var (i := 0)) (ge_int))) (ga_nil)))))))) (gss_nil)) (gss_cons (gs_if (gt_cmp (op_eqG q.hq) og_eq (ge_var (i := 3)) (ge_str)) (gss_one (gs_ret (ge_if (gt_w (gw_and (gt_val (ge_isi (T := .str) (ge_var (i := 1)) Fc.n_isinstance Fc.n_str PyProof.Rows.boot_str)) (gw_and1 (gt_cmp (op_inG q.hu) og_in (ge_var (i := 1)) (ge_callT call_list_of cg_list Fc.n_list PyProof.Rows.boot_list (ga_cons (ge_ix q.hu (ge_var (i := 0)) (ge_int)) (ga_nil))))))) (ge_lst (ga_nil)) (ge_lst (ga_cons (ge_tup (ga_cons (ge_var (i := 2)) (ga_cons (ge_str) (ga_nil)))) (ga_nil)))))) (gss_nil)) (gss_cons (gs_if (gt_w (gw_or (gt_not (gt_val (ge_isi (T := .str) (ge_var (i := 1)) Fc.n_isinstance Fc.n_str PyProof.Rows.boot_str))) (gw_or1 (gt_cmp (op_neG q.hq) og_ne (GN.ge (gn_comp (own := [("sign", 4)]) sc_law_plain.nd (gi_seq (ge_var (i := 1))) (blkOk_by (N := ["shape", "thing", "path", "word", "sign"]) (sc := defScope (top 39)) (by decide +kernel)) (fun s1 H1 C1 cl fp => gg_name (i := 4) sc_law_plain.nd) (fun s1 H1 C1 cl fp => gts_one (gt_cmp (op_notInG (q.blk [] s1 H1 _ _ fp).hu) og_notIn (ge_var (i := 4)) (ge_str))) (fun s1 H1 C1 cl fp => ge_var (i := 4)))) (ge_lst (ga_nil)))))) (gss_one (gs_ret (ge_lst (ga_cons (ge_tup (ga_cons (ge_var (i := 2)) (ga_cons (ge_str) (ga_nil)))) (ga_nil))))) (gss_nil)) (gss_one (gs_ret (ge_op op_mulG og_mul (ge_lst (ga_cons (ge_tup (ga_cons (ge_var (i := 2)) (ga_cons (ge_str) (ga_nil)))) (ga_nil))) (ge_callT call_int1 cg_int Fc.n_int PyProof.Rows.boot_int (ga_cons (ge_cmp op_gt og_gt (ge_callB call_lenG cg_len Fc.n_len boot_len (ga_cons (ge_var (i := 1)) (ga_nil))) (ge_ix q.hu (ge_var (i := 0)) (ge_int))) (ga_nil))))))))))⟩⟩
theorem w_law_spoilt (Fc : Facts w K mg) (C : ∀ f : Fnm, Callee Pg w K mg base k f.nm (s f.nm)) : Bd Pg w K mg base k ["script", "town", "thing", "some", "at", "name", "new"] "_law_spoilt" (defScope (top 40)) (defBody (top 40)) (m_law_spoilt s) :=
  ⟨fun f cdv A outer s0 H E q hp => ⟨[], gss_cons (gs_if (gt_w (gw_and (gt_val (ge_isi (T := .list) (ge_var (i := 2)) Fc.n_isinstance Fc.n_list PyProof.Rows.boot_list)) (gw_and (gt_cmp (op_neG q.hq) og_ne (ge_var (i := 2)) (ge_lst (ga_nil))) (gw_and1 (gt_cmp op_gt og_gt (ge_own q (C .law_draw) (ga_cons (ge_var (i := 0)) (ga_cons (ge_var (i := 1)) (ga_cons (ge_int) (ga_nil))))) (ge_int)))))) (gss_cons (gs_asg (i := 4) sc_law_spoilt.nd (ge_own q (C .law_draw) (ga_cons (ge_var (i := 0)) (ga_cons (ge_var (i := 1)) (ga_cons (ge_callB call_lenG cg_len Fc.n_len boot_len (ga_cons (ge_var (i := 2)) (ga_nil))) (ga_nil)))))) (gss_one (gs_ret (ge_op op_addG og_add (ge_op op_addG og_add (ge_sl (ge_var (i := 2)) go_none (go_some (ge_var (i := 4)))) (ge_lst (ga_cons (ge_own q (C .law_spoilt) (ga_cons (ge_var (i := 0)) (ga_cons (ge_var (i := 1)) (ga_cons (ge_ix q.hu (ge_var (i := 2)) (ge_var (i := 4))) (ga_nil))))) (ga_nil)))) (ge_sl (ge_var (i := 2)) (go_some (ge_op op_addG og_add (ge_var (i := 4)) (ge_int))) go_none))))) (gss_nil)) (gss_cons (gs_if (gt_w (gw_and (gt_val (ge_isi (T := .tuple) (ge_var (i := 2)) Fc.n_isinstance Fc.n_tuple PyProof.Rows.boot_tuple)) (gw_and (gt_cmp (op_eqG q.hq) og_eq (ge_callB call_lenG cg_len Fc.n_len boot_len (ga_cons (ge_var (i := 2)) (ga_nil))) (ge_int)) (gw_and1 (gt_cmp op_gt og_gt (ge_own q (C .law_draw) (ga_cons (ge_var (i := 0)) (ga_cons (ge_var (i := 1)) (ga_cons (ge_int) (ga_nil))))) (ge_int)))))) (gss_one (gs_ret (ge_tup (ga_cons (ge_ix q.hu (ge_var (i := 2)) (ge_int)) (ga_cons (ge_own q (C .law_spoilt) (ga_cons (ge_var (i := 0)) (ga_cons (ge_var (i := 1)) (ga_cons (ge_ix q.hu (ge_var (i := 2)) (ge_int)) (ga_nil))))) (ga_nil)))))) (gss_nil)) (gss_cons (gs_if (gt_w (gw_and (gt_val (ge_isi (T := .dict) (ge_var (i := 2)) Fc.n_isinstance Fc.n_dict PyProof.Rows.boot_dict)) (gw_and (gt_cmp (op_neG q.hq) og_ne (ge_var (i := 2)) (ge_dct0)) (gw_and1 (gt_cmp op_gt og_gt (ge_own q (C .law_draw) (ga_cons (ge_var (i := 0)) (ga_cons (ge_var (i := 1)) (ga_cons (ge_int) (ga_nil))))) (ge_int)))))) (gss_cons (gs_asg (i := 5) sc_law_spoilt.nd (ge_own q (C .law_pick) (ga_cons (ge_var (i := 0)) (ga_cons (ge_var (i := 1)) (ga_cons (ge_sortKeys (ge_var (i := 2)) Fc.n_sorted) (ga_nil)))))) (gss_cons (gs_asgN (i := 6) sc_law_spoilt.nd (gn_dict (ge_var (i := 2)) Fc.n_dict)) (gss_cons (gs_pop (i := 6) (ge_var (i := 5))) (gss_cons (gs_if (gt_cmp op_gt og_gt (ge_own q (C .law_draw) (ga_cons (ge_var (i := 0)) (ga_cons (ge_var (i := 1)) (ga_cons (ge_int) (ga_nil))))) (ge_int)) (gss_one (gs_put (i := 6) q.hu (ge_var (i := 5)) (ge_own q (C .law_spoilt) (ga_cons (ge_var (i := 0)) (ga_cons (ge_var (i := 1)) (ga_cons (ge_ix q.hu (ge_var (i := 2)) (ge_var (i := 5))) (ga_nil))))))) (gss_nil)) (gss_frz [] (gss_one (gs_ret (ge_var (i := 6))))))))) (gss_nil)) (gss_cons (gs_if (gt_w (gw_and (gt_val (ge_isi (T := .dict) (ge_var (i := 2)) Fc.n_isinstance Fc.n_dict PyProof.Rows.boot_dict)) (gw_and1 (gt_cmp (op_eqG q.hq) og_eq (ge_own q (C .law_draw) (ga_cons (ge_var (i := 0)) (ga_cons (ge_var (i := 1)) (ga_cons (ge_int) (ga_nil))))) (ge_int))))) (gss_cons (gs_asgN (i := 6) sc_law_spoilt.nd (gn_dict (ge_var (i := 2)) Fc.n_dict)) (gss_cons (gs_put (i := 6) q.hu (ge_own q (C .law_word) (ga_cons (ge_var (i := 0)) (ga_cons (ge_var (i := 1)) (ga_nil)))) (ge_int)) (gss_frz [] (gss_one (gs_ret (ge_var (i := 6))))))) (gss_nil)) (gss_cons (gs_asg (i := 3) sc_law_spoilt.nd (ge_lst (ga_cons (ge_bl) (ga_cons (ge_int) (ga_cons (ge_int) (ga_cons (ge_neg (ge_int)) (ga_cons (ge_int) (ga_cons (ge_str) (ga_cons (ge_str) (ga_cons (ge_str) (ga_cons (ge_str) (ga_cons (ge_non) (ga_cons (ge_lst (ga_nil)) (ga_cons (ge_lst (ga_cons (ge_non) (ga_nil))) (ga_cons (ge_dct0) (ga_cons (ge_tup (ga_nil)) (ga_cons (ge_tup (ga_cons (ge_str) (ga_cons (ge_int) (ga_nil)))) (ga_cons (ge_tup (ga_cons (ge_str) (ga_nil))) (ga_cons (ge_tup (ga_cons (ge_str) (ga_cons (ge_lst (ga_nil)) (ga_nil)))) (ga_nil)))))))))))))))))))) (gss_cons (gs_if (gt_val (ge_isi (T := .list) (ge_var (i := 2)) Fc.n_isinstance Fc.n_list PyProof.Rows.boot_list)) (gss_one (gs_asg (i := 3) sc_law_spoilt.nd (ge_op op_addG og_add (ge_var (i := 3)) (ge_lst (ga_cons (ge_op op_addG og_add (ge_var (i := 2)) (ge_op op_mulG og_mul (ge_sl (ge_var (i := 2)) go_none (go_some (ge_int))) (ge_int))) (ga_cons (ge_op op_addG og_add (ge_var (i := 2)) (ge_lst (ga_cons (ge_non) (ga_cons (ge_str) (ga_cons (ge_int) (ga_cons (ge_bl) (ga_cons (ge_str) (ga_nil)))))))) (ga_nil))))))) (gss_nil)) (gss_one (gs_ret (ge_own q (C .law_pick) (ga_cons (ge_var (i := 0)) (ga_cons (ge_var (i := 1)) (ga_cons (ge_var (i := 3)) (ga_nil))))))))))))⟩⟩
theorem all_ok (Fc : Facts w K mg) : ∀ (k : Nat) (f : Fnm), Callee Pg w K mg base k f.nm (sem k f.nm)
  | 0, .is_whole => callee_0 Fc.d_is_whole
  | 0, .is_word => callee_0 Fc.d_is_word
  | 0, .are_words => callee_0 Fc.d_are_words
  | 0, .is_shape => callee_0 Fc.d_is_shape
  | 0, .are_parts => callee_0 Fc.d_are_parts
  | 0, .look_shape => callee_0 Fc.d_look_shape
  | 0, .is_of => callee_0 Fc.d_is_of
  | 0, .is_one => callee_0 Fc.d_is_one
  | 0, .is_of_kind => callee_0 Fc.d_is_of_kind
  | 0, .part_of => callee_0 Fc.d_part_of
  | 0, .faults => callee_0 Fc.d_faults
  | 0, .wrong => callee_0 Fc.d_wrong
  | 0, .wrong_list => callee_0 Fc.d_wrong_list
  | 0, .wrong_kind => callee_0 Fc.d_wrong_kind
  | 0, .wrong_rec => callee_0 Fc.d_wrong_rec
  | 0, .law_cell => callee_0 Fc.d_law_cell
  | 0, .law_mix => callee_0 Fc.d_law_mix
  | 0, .law_draw => callee_0 Fc.d_law_draw
  | 0, .law_pick => callee_0 Fc.d_law_pick
  | 0, .law_word => callee_0 Fc.d_law_word
  | 0, .law_words => callee_0 Fc.d_law_words
  | 0, .law_shape => callee_0 Fc.d_law_shape
  | 0, .law_thing => callee_0 Fc.d_law_thing
  | 0, .law_same => callee_0 Fc.d_law_same
  | 0, .law_part => callee_0 Fc.d_law_part
  | 0, .law_wrong => callee_0 Fc.d_law_wrong
  | 0, .law_plain => callee_0 Fc.d_law_plain
  | 0, .law_spoilt => callee_0 Fc.d_law_spoilt
  | k + 1, .is_whole => (u_is_whole k).symm ▸ callee_G Fc.d_is_whole sc_is_whole rfl rfl (w_is_whole Fc (all_ok Fc k))
  | k + 1, .is_word => (u_is_word k).symm ▸ callee_G Fc.d_is_word sc_is_word rfl rfl (w_is_word Fc (all_ok Fc k))
  | k + 1, .are_words => (u_are_words k).symm ▸ callee_G Fc.d_are_words sc_are_words rfl rfl (w_are_words Fc (all_ok Fc k))
  | k + 1, .is_shape => (u_is_shape k).symm ▸ callee_G Fc.d_is_shape sc_is_shape rfl rfl (w_is_shape Fc (all_ok Fc k))
  | k + 1, .are_parts => (u_are_parts k).symm ▸ callee_G Fc.d_are_parts sc_are_parts rfl rfl (w_are_parts Fc (all_ok Fc k))
  | k + 1, .look_shape => (u_look_shape k).symm ▸ callee_G Fc.d_look_shape sc_look_shape rfl rfl (w_look_shape Fc (all_ok Fc k))
  | k + 1, .is_of => (u_is_of k).symm ▸ callee_G Fc.d_is_of sc_is_of rfl rfl (w_is_of Fc (all_ok Fc k))
  | k + 1, .is_one => (u_is_one k).symm ▸ callee_G Fc.d_is_one sc_is_one rfl rfl (w_is_one Fc (all_ok Fc k))
  | k + 1, .is_of_kind => (u_is_of_kind k).symm ▸ callee_G Fc.d_is_of_kind sc_is_of_kind rfl rfl (w_is_of_kind Fc (all_ok Fc k))
  | k + 1, .part_of => (u_part_of k).symm ▸ callee_G Fc.d_part_of sc_part_of rfl rfl (w_part_of Fc (all_ok Fc k))
  | k + 1, .faults => (u_faults k).symm ▸ callee_G Fc.d_faults sc_faults rfl rfl (w_faults Fc (all_ok Fc k))
  | k + 1, .wrong => (u_wrong k).symm ▸ callee_G Fc.d_wrong sc_wrong rfl rfl (w_wrong Fc (all_ok Fc k))
  | k + 1, .wrong_list => (u_wrong_list k).symm ▸ callee_G Fc.d_wrong_list sc_wrong_list rfl rfl (w_wrong_list Fc (all_ok Fc k))
  | k + 1, .wrong_kind => (u_wrong_kind k).symm ▸ callee_G Fc.d_wrong_kind sc_wrong_kind rfl rfl (w_wrong_kind Fc (all_ok Fc k))
  | k + 1, .wrong_rec => (u_wrong_rec k).symm ▸ callee_G Fc.d_wrong_rec sc_wrong_rec rfl rfl (w_wrong_rec Fc (all_ok Fc k))
  | k + 1, .law_cell => (u_law_cell k).symm ▸ callee_G Fc.d_law_cell sc_law_cell rfl rfl (w_law_cell Fc (all_ok Fc k))
  | k + 1, .law_mix => (u_law_mix k).symm ▸ callee_G Fc.d_law_mix sc_law_mix rfl rfl (w_law_mix Fc (all_ok Fc k))
  | k + 1, .law_draw => (u_law_draw k).symm ▸ callee_G Fc.d_law_draw sc_law_draw rfl rfl (w_law_draw Fc (all_ok Fc k))
  | k + 1, .law_pick => (u_law_pick k).symm ▸ callee_G Fc.d_law_pick sc_law_pick rfl rfl (w_law_pick Fc (all_ok Fc k))
  | k + 1, .law_word => (u_law_word k).symm ▸ callee_G Fc.d_law_word sc_law_word rfl rfl (w_law_word Fc (all_ok Fc k))
  | k + 1, .law_words => (u_law_words k).symm ▸ callee_G Fc.d_law_words sc_law_words rfl rfl (w_law_words Fc (all_ok Fc k))
  | k + 1, .law_shape => (u_law_shape k).symm ▸ callee_G Fc.d_law_shape sc_law_shape rfl rfl (w_law_shape Fc (all_ok Fc k))
  | k + 1, .law_thing => (u_law_thing k).symm ▸ callee_G Fc.d_law_thing sc_law_thing rfl rfl (w_law_thing Fc (all_ok Fc k))
  | k + 1, .law_same => (u_law_same k).symm ▸ callee_G Fc.d_law_same sc_law_same rfl rfl (w_law_same Fc (all_ok Fc k))
  | k + 1, .law_part => (u_law_part k).symm ▸ callee_G Fc.d_law_part sc_law_part rfl rfl (w_law_part Fc (all_ok Fc k))
  | k + 1, .law_wrong => (u_law_wrong k).symm ▸ callee_G Fc.d_law_wrong sc_law_wrong rfl rfl (w_law_wrong Fc (all_ok Fc k))
  | k + 1, .law_plain => (u_law_plain k).symm ▸ callee_G Fc.d_law_plain sc_law_plain rfl rfl (w_law_plain Fc (all_ok Fc k))
  | k + 1, .law_spoilt => (u_law_spoilt k).symm ▸ callee_G Fc.d_law_spoilt sc_law_spoilt rfl rfl (w_law_spoilt Fc (all_ok Fc k))
theorem w_law (Fc : Facts w K mg) (C : ∀ f : Fnm, Callee Pg w K mg base k f.nm (s f.nm)) : Bd Pg w K mg base k ["script", "town", "shape", "thing", "k", "found", "name", "part"] "law" (defScope (top 41)) (defBody (top 41)).tail (m_law s) :=
  ⟨fun f cdv A outer s0 H E q hp => ⟨[], gss_cons (gs_asg (i := 2) sc_law.nd (ge_own q (C .law_shape) (ga_cons (ge_var (i := 0)) (ga_cons (ge_var (i := 1)) (ga_cons (ge_int) (ga_cons (ge_bl) (ga_nil))))))) (gss_cons (gs_asg (i := 3) sc_law.nd (ge_own q (C .law_thing) (ga_cons (ge_var (i := 0)) (ga_cons (ge_var (i := 1)) (ga_cons (ge_var (i := 2)) (ga_nil)))))) (gss_cons (gs_if (gt_cmp (op_neG q.hq) og_ne (ge_own q (C .faults) (ga_cons (ge_var (i := 2)) (ga_cons (ge_var (i := 3)) (ga_nil)))) (ge_lst (ga_nil))) (gss_one (gs_ret (ge_bl))) (gss_nil)) (gss_cons (gs_for hp (gi_range1 (ge_int) Fc.n_range) (gg_name (i := 4) sc_law.nd) (gss_cons (gs_asg (i := 3) sc_law.nd (ge_own q (C .law_spoilt) (ga_cons (ge_var (i := 0)) (ga_cons (ge_var (i := 1)) (ga_cons (ge_var (i := 3)) (ga_nil)))))) (gss_cons (gs_asg (i := 5) sc_law.nd (ge_own q (C .faults) (ga_cons (ge_var (i := 2)) (ga_cons (ge_var (i := 3)) (ga_nil))))) (gss_one (gs_if (gt_w (gw_or (gt_cmp (op_neG q.hq) og_ne (ge_var (i := 5)) (ge_own q (C .law_wrong) (ga_cons (ge_var (i := 2)) (ga_cons (ge_var (i := 3)) (ga_cons (ge_tup (ga_nil)) (ga_nil)))))) (gw_or1 (gt_cmp (op_neG q.hq) og_ne (ge_own q (C .is_of) (ga_cons (ge_var (i := 2)) (ga_cons (ge_var (i := 3)) (ga_nil)))) (ge_cmp (op_eqG q.hq) og_eq (ge_var (i := 5)) (ge_lst (ga_nil))))))) (gss_one (gs_ret (ge_bl))) (gss_nil)))))) (gss_cons (gs_if (gt_cmp (op_neG q.hq) og_ne (ge_ix q.hu (ge_var (i := 2)) (ge_int)) (ge_str)) (gss_one (gs_ret (ge_bl))) (gss_nil)) (gss_one (gs_ret (ge_cmp (op_eqG q.hq) og_eq (ge_own q (C .faults) (ga_cons (ge_var (i := 2)) (ga_cons (ge_dct0) (ga_nil)))) (GN.ge (gn_comp (own := [("name", 6), ("part", 7)]) sc_law.nd (gi_seq (ge_ix q.hu (ge_var (i := 2)) (ge_int))) (blkOk_by (N := ["script", "town", "shape", "thing", "k", "found", "name", "part"]) (sc := defScope (top 41)) (by decide +kernel)) (fun s1 H1 C1 cl fp => gg_tup (ggs_cons (gg_name (i := 6) sc_law.nd) (ggs_cons (gg_name (i := 7) sc_law.nd) (ggs_nil)))) (fun s1 H1 C1 cl fp => gts_nil) (fun s1 H1 C1 cl fp => ge_tup (ga_cons (ge_tup (ga_cons (ge_var (i := 6)) (ga_nil))) (ga_cons (ge_str) (ga_nil)))))))))))))⟩⟩
end
end Law
namespace Law
open PySem L2 G
@[simp] theorem q_number_truth : (("number" : Str) == "truth") = false := by decide
@[simp] theorem q_number_word : (("number" : Str) == "word") = false := by decide
@[simp] theorem q_number_text : (("number" : Str) == "text") = false := by decide
@[simp] theorem q_number_list : (("number" : Str) == "list") = false := by decide
@[simp] theorem q_number_maybe : (("number" : Str) == "maybe") = false := by decide
@[simp] theorem q_number_rec : (("number" : Str) == "rec") = false := by decide
@[simp] theorem q_number_kind : (("number" : Str) == "kind") = false := by decide
@[simp] theorem q_truth_number : (("truth" : Str) == "number") = false := by decide
@[simp] theorem q_truth_word : (("truth" : Str) == "word") = false := by decide
@[simp] theorem q_truth_text : (("truth" : Str) == "text") = false := by decide
@[simp] theorem q_truth_list : (("truth" : Str) == "list") = false := by decide
@[simp] theorem q_truth_maybe : (("truth" : Str) == "maybe") = false := by decide
@[simp] theorem q_truth_rec : (("truth" : Str) == "rec") = false := by decide
@[simp] theorem q_truth_kind : (("truth" : Str) == "kind") = false := by decide
@[simp] theorem q_word_number : (("word" : Str) == "number") = false := by decide
@[simp] theorem q_word_truth : (("word" : Str) == "truth") = false := by decide
@[simp] theorem q_word_text : (("word" : Str) == "text") = false := by decide
@[simp] theorem q_word_list : (("word" : Str) == "list") = false := by decide
@[simp] theorem q_word_maybe : (("word" : Str) == "maybe") = false := by decide
@[simp] theorem q_word_rec : (("word" : Str) == "rec") = false := by decide
@[simp] theorem q_word_kind : (("word" : Str) == "kind") = false := by decide
@[simp] theorem q_text_number : (("text" : Str) == "number") = false := by decide
@[simp] theorem q_text_truth : (("text" : Str) == "truth") = false := by decide
@[simp] theorem q_text_word : (("text" : Str) == "word") = false := by decide
@[simp] theorem q_text_list : (("text" : Str) == "list") = false := by decide
@[simp] theorem q_text_maybe : (("text" : Str) == "maybe") = false := by decide
@[simp] theorem q_text_rec : (("text" : Str) == "rec") = false := by decide
@[simp] theorem q_text_kind : (("text" : Str) == "kind") = false := by decide
@[simp] theorem q_list_number : (("list" : Str) == "number") = false := by decide
@[simp] theorem q_list_truth : (("list" : Str) == "truth") = false := by decide
@[simp] theorem q_list_word : (("list" : Str) == "word") = false := by decide
@[simp] theorem q_list_text : (("list" : Str) == "text") = false := by decide
@[simp] theorem q_list_maybe : (("list" : Str) == "maybe") = false := by decide
@[simp] theorem q_list_rec : (("list" : Str) == "rec") = false := by decide
@[simp] theorem q_list_kind : (("list" : Str) == "kind") = false := by decide
@[simp] theorem q_maybe_number : (("maybe" : Str) == "number") = false := by decide
@[simp] theorem q_maybe_truth : (("maybe" : Str) == "truth") = false := by decide
@[simp] theorem q_maybe_word : (("maybe" : Str) == "word") = false := by decide
@[simp] theorem q_maybe_text : (("maybe" : Str) == "text") = false := by decide
@[simp] theorem q_maybe_list : (("maybe" : Str) == "list") = false := by decide
@[simp] theorem q_maybe_rec : (("maybe" : Str) == "rec") = false := by decide
@[simp] theorem q_maybe_kind : (("maybe" : Str) == "kind") = false := by decide
@[simp] theorem q_rec_number : (("rec" : Str) == "number") = false := by decide
@[simp] theorem q_rec_truth : (("rec" : Str) == "truth") = false := by decide
@[simp] theorem q_rec_word : (("rec" : Str) == "word") = false := by decide
@[simp] theorem q_rec_text : (("rec" : Str) == "text") = false := by decide
@[simp] theorem q_rec_list : (("rec" : Str) == "list") = false := by decide
@[simp] theorem q_rec_maybe : (("rec" : Str) == "maybe") = false := by decide
@[simp] theorem q_rec_kind : (("rec" : Str) == "kind") = false := by decide
@[simp] theorem q_kind_number : (("kind" : Str) == "number") = false := by decide
@[simp] theorem q_kind_truth : (("kind" : Str) == "truth") = false := by decide
@[simp] theorem q_kind_word : (("kind" : Str) == "word") = false := by decide
@[simp] theorem q_kind_text : (("kind" : Str) == "text") = false := by decide
@[simp] theorem q_kind_list : (("kind" : Str) == "list") = false := by decide
@[simp] theorem q_kind_maybe : (("kind" : Str) == "maybe") = false := by decide
@[simp] theorem q_kind_rec : (("kind" : Str) == "rec") = false := by decide
@[simp] theorem z_number : tabGet tab_SIZES "number" 0 = 3 := by decide
@[simp] theorem z_truth : tabGet tab_SIZES "truth" 0 = 1 := by decide
@[simp] theorem z_word : tabGet tab_SIZES "word" 0 = 2 := by decide
@[simp] theorem z_text : tabGet tab_SIZES "text" 0 = 2 := by decide
@[simp] theorem z_list : tabGet tab_SIZES "list" 0 = 3 := by decide
@[simp] theorem z_maybe : tabGet tab_SIZES "maybe" 0 = 2 := by decide
@[simp] theorem z_rec : tabGet tab_SIZES "rec" 0 = 2 := by decide
@[simp] theorem z_kind : tabGet tab_SIZES "kind" 0 = 2 := by decide
/-! ### shapes -/
inductive Sh where
  | num (lo hi : Int) | tru | wrd (ws : List Str) | txt (n : Nat) | lis (s : Sh) (n : Nat) | may (s : Sh) | rcd (ps : List (Str × Sh)) | knd (ps : List (Str × Sh))
mutual
def enc : Sh → D
  | .num lo hi => .tup [.str "number", .int lo, .int hi]
  | .tru => .tup [.str "truth"]
  | .wrd ws => .tup [.str "word", .tup (ws.map .str)]
  | .txt n => .tup [.str "text", .int n]
  | .lis s n => .tup [.str "list", enc s, .int n]
  | .may s => .tup [.str "maybe", enc s]
  | .rcd ps => .tup [.str "rec", .tup (encs ps)]
  | .knd ps => .tup [.str "kind", .tup (encs ps)]
def encs : List (Str × Sh) → List D
  | [] => []
  | p :: r => encp p :: encs r
def encp : Str × Sh → D
  | (n, s) => .tup [.str n, enc s]
end
theorem encs_map (ps : List (Str × Sh)) : encs ps = ps.map encp := by
  induction ps with
  | nil => rfl
  | cons p r ih => simp [encs, ih]
@[simp] theorem encp_e (p : Str × Sh) : encp p = .tup [.str p.1, enc p.2] := by obtain ⟨n, s⟩ := p; simp [encp]
/-- a word: one to eight small letters -/
def okW (z : Str) : Prop := 1 ≤ z.length ∧ z.length ≤ 8 ∧ ∀ c ∈ z.cps.toList, c ∈ ("abcdefghijklmnopqrstuvwxyz" : Str).cps.toList
def isMay : Sh → Bool
  | .may _ => true
  | _ => false
/-- a good shape of at most n levels -/
inductive Gd : Nat → Sh → Prop
  | num {n : Nat} {lo hi : Int} : -1000000 ≤ lo → lo ≤ hi → hi ≤ 1000000 → Gd (n + 1) (.num lo hi)
  | tru {n : Nat} : Gd (n + 1) .tru
  | wrd {n : Nat} {ws : List Str} : 1 ≤ ws.length → ws.length ≤ 4 → (∀ w ∈ ws, okW w) → ws.Nodup → Gd (n + 1) (.wrd ws)
  | txt {n m : Nat} : m ≤ 4 → Gd (n + 1) (.txt m)
  | lis {n m : Nat} {s : Sh} : Gd n s → m ≤ 4 → Gd (n + 1) (.lis s m)
  | may {n : Nat} {s : Sh} : Gd n s → isMay s = false → Gd (n + 1) (.may s)
  | rcd {n : Nat} {ps : List (Str × Sh)} : ps.length ≤ 4 → (∀ p ∈ ps, okW p.1) → (∀ p ∈ ps, Gd n p.2) → (ps.map (·.1)).Nodup → Gd (n + 1) (.rcd ps)
  | knd {n : Nat} {ps : List (Str × Sh)} : 1 ≤ ps.length → ps.length ≤ 4 → (∀ p ∈ ps, okW p.1) → (∀ p ∈ ps, Gd n p.2) → (ps.map (·.1)).Nodup → Gd (n + 1) (.knd ps)
/-! ### is_whole, is_word, are_words -/
def isWh (t : D) (a b : Int) : Bool := match t with
  | .int i => decide (a ≤ i) && decide (i ≤ b)
  | _ => false
theorem whole_ok (k : Nat) (t : D) (a b : Int) (S : Sx) : sem (k + 1) "is_whole" [.d t, .d (.int a), .d (.int b)] S = .ok (.bl (isWh t a b)) S := by
  rw [u_is_whole]
  unfold m_is_whole isWh
  cases t <;> simp [isi]
  rename_i i
  by_cases h : a ≤ i <;> simp [h]
@[simp] theorem inD_sign {c : Nat} {z : Str} : inD (.str ⟨#[c]⟩) (.str z) = some (.bl (decide (c ∈ z.cps.toList))) := by
  simp [inD, inB]
@[simp] theorem notInD_sign {c : Nat} {z : Str} : notInD (.str ⟨#[c]⟩) (.str z) = some (.bl (!decide (c ∈ z.cps.toList))) := by
  simp [notInD, inB]
theorem sign_comp {i : Nat} {z y : Str} {ρ : Rho} {S : Sx} {fe : Fe} (h : ∀ c, turnF (.n i) [i] tYesF fe (.str ⟨#[c]⟩) ρ S = .ok (some (.bl (decide (c ∈ y.cps.toList)))) S) : compF (.n i) [i] tYesF fe ρ (signs z) S = .ok ((z.cps.toList.map fun c => decide (c ∈ y.cps.toList)).map .bl) S := by
  unfold signs
  rw [cmp_map (g := fun (d : D) => match d with
    | .str z => .bl (decide (z.cps.getD 0 0 ∈ y.cps.toList))
    | _ => .non)]
  · simp
  · intro d hd
    obtain ⟨c, _, rfl⟩ := List.mem_map.mp hd
    rw [h c]; simp
theorem word_ok (k : Nat) (z : Str) (h : okW z) (S : Sx) : sem (k + 1) "is_word" [.d (.str z)] S = .ok (.bl true) S := by
  rw [u_is_word]
  unfold m_is_word
  obtain ⟨h1, h2, h3⟩ := h
  have e1 : (1 : Int) ≤ (z.length : Int) := by omega
  have e2 : (z.length : Int) ≤ 8 := by omega
  simp [isi, e1, e2]
  rw [sign_comp (y := "abcdefghijklmnopqrstuvwxyz") (fun c => by simp [turnF, bindT, wipeR])]
  simp
  intro i hi
  have := h3 z.cps[i] (by simp)
  simpa using this
/-- distinct texts -/
theorem ndU_nodup (xs : List Str) (h : xs.Nodup) : ∀ i, i ≤ xs.length → ndU xs i = i
  | 0, _ => rfl
  | i + 1, hi => by
    unfold ndU
    have hl : i < xs.length := by omega
    have hn : ¬ (xs.take i).any (· == xs.getD i Str.empty) = true := by
      intro q
      obtain ⟨y, hy, e⟩ := List.any_eq_true.mp q
      have e := eq_of_beq e
      obtain ⟨j, hj, ej⟩ := List.mem_iff_getElem.mp hy
      rw [List.length_take] at hj
      rw [List.getElem_take] at ej
      have : xs.getD i Str.empty = xs[i] := by simp [hl]
      rw [this, ← ej] at e
      have := (List.getElem_inj h).mp e
      omega
    rw [if_neg hn, ndU_nodup xs h i (by omega)]
theorem distinct_nodup {xs : List Str} (h : xs.Nodup) : distinct xs = xs.length := ndU_nodup xs h _ (Nat.le_refl _)
@[simp] theorem strsD_map (zs : List Str) : strsD (zs.map .str) = some zs := by
  induction zs with
  | nil => rfl
  | cons z r ih => simp [ih]
theorem words_ok (k : Nat) (c : List D → D) (hc : c = .tup ∨ c = .lst) (ws : List Str) (m : Nat) (h1 : m ≤ ws.length) (h2 : ws.length ≤ 4) (h3 : ∀ w ∈ ws, okW w) (h4 : ws.Nodup) (S : Sx) : sem (k + 2) "are_words" [.d (c (ws.map .str)), .d (.int m)] S = .ok (.bl true) S := by
  rw [u_are_words]
  unfold m_are_words
  have e1 : (m : Int) ≤ (ws.length : Int) := by omega
  have e2 : (ws.length : Int) ≤ 4 := by omega
  have e3 : ws.length + 1 < 4096 := by omega
  have hcomp : ∀ ρ : Rho, ρ.length = 3 → compF (.n 2) [2] tYesF (eOwn (sem (k + 1) "is_word") (aCons (eVar 2) aNil)) ρ (ws.map .str) S = .ok (ws.map fun _ => .bl true) S := fun ρ hρ => by
    rw [cmp_map (g := fun _ => .bl true)]
    · simp
    · intro d hd
      obtain ⟨w, hw, rfl⟩ := List.mem_map.mp hd
      match ρ, hρ with
      | [a, b, c], _ => simp [turnF, bindT, wipeR, word_ok k w (h3 w hw)]
  have hl : lenSetD (.d (c (ws.map .str))) S = .ok (.d (.int (ws.length : Nat))) S := by
    rcases hc with rfl | rfl <;> simp [lenSetD, e3, distinct_nodup h4]
  have fin : (ws.map fun _ => (D.bl true)) = ws.map (fun _ => D.bl true) := rfl
  rcases hc with rfl | rfl
  · simp [e1, e2, hcomp, isSeq, hl]
  · simp [e1, e2, hcomp, isSeq, hl]
/-! ### is_shape -/
theorem enc_shape (s : Sh) : ∃ w r, enc s = .tup (.str w :: r) ∧ (isMay s = false → (w == ("maybe" : Str)) = false) ∧ (isMay s = true → w = "maybe") := by
  cases s <;> exact ⟨_, _, rfl, by simp [isMay], by simp [isMay]⟩
theorem shape_ok : ∀ (n j : Nat) (s : Sh) (deep : Int) (S : Sx), Gd n s → (n : Int) ≤ deep → sem (j + 2 * n + 4) "is_shape" [.d (enc s), .d (.int deep)] S = .ok (.bl true) S := by
  intro n
  induction n with
  | zero => intro j s deep S h; cases h
  | succ n ih =>
    intro j s deep S h hd
    have hk : j + 2 * (n + 1) + 4 = (j + 2 * n + 5) + 1 := by omega
    rw [hk, u_is_shape]
    unfold m_is_shape
    have hd0 : (deep == 0) = false := by simp; omega
    have hd1 : ((n : Nat) : Int) ≤ deep - 1 := by omega
    have ih1 : ∀ s : Sh, Gd n s → sem (j + 2 * n + 5) "is_shape" [.d (enc s), .d (.int (deep - 1))] S = .ok (.bl true) S := fun s hs => by
      have := ih (j + 1) s (deep - 1) S hs hd1
      rw [show j + 1 + 2 * n + 4 = j + 2 * n + 5 by omega] at this
      exact this
    have parts : ∀ (ps : List (Str × Sh)) (m : Nat), m ≤ ps.length → ps.length ≤ 4 → (∀ p ∈ ps, okW p.1) → (∀ p ∈ ps, Gd n p.2) → (ps.map (·.1)).Nodup → sem (j + 2 * n + 5) "are_parts" [.d (.tup (encs ps)), .d (.int deep), .d (.int m)] S = .ok (.bl true) S := by
      intro ps m h1 h2 h3 h4 h5
      rw [show j + 2 * n + 5 = (j + 2 * n + 4) + 1 by omega, u_are_parts]
      unfold m_are_parts
      rw [encs_map]
      have c1 : ∀ a b c d, compF (.n 3) [3] tYesF (eAndF (eIsi .tuple (eVar 3)) (eOp eqO (eCall lenG (aCons (eVar 3) aNil)) (eC (.int 2)))) [a, b, c, d] (ps.map encp) S = .ok (ps.map fun _ => .bl true) S := fun a b c d => by
        rw [cmp_map (g := fun _ => .bl true)]
        · simp
        · intro x hx
          obtain ⟨p, hp, rfl⟩ := List.mem_map.mp hx
          simp [turnF, bindT, wipeR, isi]
      have c2 : ∀ a b c d, compF (.n 3) [3] tYesF (eOwn (sem (j + 2 * n + 4) "is_word") (aCons (eIx (eVar 3) (eC (.int 0))) aNil)) [a, b, c, d] (ps.map encp) S = .ok (ps.map fun _ => .bl true) S := fun a b c d => by
        rw [cmp_map (g := fun _ => .bl true)]
        · simp
        · intro x hx
          obtain ⟨p, hp, rfl⟩ := List.mem_map.mp hx
          simp [turnF, bindT, wipeR, isi, word_ok (j + 2 * n + 3) p.1 (h3 p hp)]
      have c3 : ∀ a b c d, compF (.n 3) [3] tYesF (eIx (eVar 3) (eC (.int 0))) [a, b, c, d] (ps.map encp) S = .ok ((ps.map (·.1)).map .str) S := fun a b c d => by
        rw [cmp_map (g := fun x => match x with
          | .tup (y :: _) => y
          | _ => .non)]
        · simp
        · intro x hx
          obtain ⟨p, hp, rfl⟩ := List.mem_map.mp hx
          simp [turnF, bindT, wipeR, isi]
      have c4 : ∀ a c d, compF (.n 3) [3] tYesF (eOwn (sem (j + 2 * n + 4) "is_shape") (aCons (eIx (eVar 3) (eC (.int 1))) (aCons (eOp subD (eVar 1) (eC (.int 1))) aNil))) [a, some (.d (.int deep)), c, d] (ps.map encp) S = .ok (ps.map fun _ => .bl true) S := fun a c d => by
        rw [cmp_map (g := fun _ => .bl true)]
        · simp
        · intro x hx
          obtain ⟨p, hp, rfl⟩ := List.mem_map.mp hx
          have := ih j p.2 (deep - 1) S (h4 p hp) hd1
          simp [turnF, bindT, wipeR, isi, this]
      have c5 := words_ok (j + 2 * n + 2) .lst (.inr rfl) (ps.map (·.1)) m (by simpa using h1) (by simpa using h2) (fun w hw => by
        obtain ⟨p, hp, rfl⟩ := List.mem_map.mp hw
        exact h3 p hp) h5 S
      rw [show j + 2 * n + 2 + 2 = j + 2 * n + 4 by omega] at c5
      simp [c1, c2, c3, c4, c5, -List.map_map]
    cases h with
    | @num _ lo hi h1 h2 h3 =>
      simp [enc, isi, hd0, whole_ok, isWh, h1, h2, h3, Int.le_trans h2 h3]
    | tru => simp [enc, isi, hd0]
    | wrd h1 h2 h3 h4 =>
      have := words_ok (j + 2 * n + 3) .tup (.inl rfl) _ 1 h1 h2 h3 h4 S
      simp at this
      simp [enc, isi, hd0, this]
    | @txt _ m h1 =>
      have e1 : (m : Int) ≤ 4 := by omega
      simp [enc, isi, hd0, whole_ok, isWh, e1]
    | @lis _ m s h1 h2 =>
      have e1 : (m : Int) ≤ 4 := by omega
      simp [enc, isi, hd0, whole_ok, isWh, e1, ih1 s h1]
    | @may _ s h1 h2 =>
      obtain ⟨w, r, es, hw, _⟩ := enc_shape s
      have := ih1 s h1
      rw [es] at this
      simp [enc, isi, hd0, this, es, hw h2]
    | @rcd _ ps h1 h2 h3 h4 =>
      have := parts ps 0 (Nat.zero_le _) h1 h2 h3 h4
      simp at this
      simp [enc, isi, hd0, this, intG]
    | @knd _ ps h1 h2 h3 h4 h5 =>
      have := parts ps 1 h1 h2 h3 h4 h5
      simp at this
      simp [enc, isi, hd0, this, intG]
theorem look_ok (j : Nat) (s : Sh) (h : Gd 4 s) (S : Sx) : sem (j + 13) "look_shape" [.d (enc s)] S = .ok .non S := by
  rw [u_look_shape]
  unfold m_look_shape
  have := shape_ok 4 j s 4 S h (by simp)
  simp [this]
end Law
namespace Law
open PySem L2 G
def letters (z : Str) : Bool := z.cps.toList.all fun c => decide (c ∈ ("abc" : Str).cps.toList)
def oneP : Nat → Sh → D → Bool
  | 0, _, _ => false
  | n + 1, s, t => match s with
    | .num lo hi => isWh t lo hi
    | .tru => isi .bool t
    | .wrd ws => (match t with
      | .str z => ws.any fun w => w == z
      | _ => false)
    | .txt m => (match t with
      | .str z => decide (z.length ≤ m) && letters z
      | _ => false)
    | .lis s m => (match t with
      | .lst xs => decide (xs.length ≤ m) && xs.all (oneP n s)
      | _ => false)
    | .may s => (match t with
      | .non => true
      | t => oneP n s t)
    | .rcd ps => (match t with
      | .dct kvs => (kvs.length == ps.length) && ps.all fun p => match lookK kvs (.inr p.1) with
        | some u => oneP n p.2 u
        | none => false
      | _ => false)
    | .knd ps => (match t with
      | .tup [.str z, u] => ps.any fun p => z == p.1 && oneP n p.2 u
      | _ => false)
theorem inD_words {ws : List Str} {z : Str} : inD (.str z) (.tup (ws.map .str)) = some (.bl (ws.any fun w => w == z)) := by
  have h : (ws.map D.str).all flatD = true := by simp [flatD]
  have e : (inB (.str z) (.tup (ws.map .str))) = inSeq (.str z) (ws.map .str) := by
    unfold inB
    split <;> simp_all
  simp [inD, e, inSeq, flatD, h, eqF, List.any_map, Function.comp_def]
theorem inD_key {z : Str} {kvs : List (Key × D)} : inD (.str z) (.dct kvs) = some (.bl (lookK kvs (.inr z)).isSome) := by
  have e : inB (.str z) (.dct kvs) = some (lookK kvs (.inr z)).isSome := by
    unfold inB
    split <;> simp_all [keyD]
  simp [inD, e]
theorem one_ok : ∀ (n j : Nat) (s : Sh) (t : D) (S : Sx), Gd n s → sem (j + 2 * n + 2) "is_one" [.d (enc s), .d t] S = .ok (.bl (oneP n s t)) S := by
  intro n
  induction n with
  | zero => intro j s t S h; cases h
  | succ n ih =>
    intro j s t S h
    have hk : j + 2 * (n + 1) + 2 = (j + 2 * n + 3) + 1 := by omega
    rw [hk, u_is_one]
    unfold m_is_one
    have ih1 : ∀ (s : Sh) (t : D), Gd n s → sem (j + 2 * n + 3) "is_one" [.d (enc s), .d t] S = .ok (.bl (oneP n s t)) S := fun s t hs => by
      have := ih (j + 1) s t S hs
      rw [show j + 1 + 2 * n + 2 = j + 2 * n + 3 by omega] at this
      exact this
    cases h with
    | @num _ lo hi h1 h2 h3 => simp [enc, whole_ok, oneP]
    | tru => simp [enc, oneP]
    | @wrd _ ws h1 h2 h3 h4 =>
      cases t <;> simp [enc, isi, oneP, inD_words]
    | @txt _ m h1 =>
      cases t <;> simp [enc, isi, oneP]
      rename_i z
      by_cases e : z.length ≤ m
      · have e' : (z.length : Int) ≤ (m : Int) := by omega
        simp [e]
        rw [sign_comp (y := "abc") (fun c => by simp [turnF, bindT, wipeR])]
        simp [letters]
      · simp [e]
    | @lis _ m s h1 h2 =>
      cases t <;> simp [enc, isi, oneP]
      rename_i xs
      by_cases e : xs.length ≤ m
      · simp [e]
        rw [cmp_map (g := fun x => .bl (oneP n s x))]
        · simp [List.all_map, Function.comp_def]
        · intro x hx
          simp [turnF, bindT, wipeR, ih1 s x h1]
      · simp [e]
    | @may _ s h1 h2 =>
      cases t <;> simp [enc, isN, oneP, ih1 s _ h1]
    | @rcd _ ps h1 h2 h3 h4 =>
      cases t <;> simp [enc, isi, oneP]
      rename_i kvs
      rw [encs_map]
      by_cases e : kvs.length = ps.length
      · simp [e]
        rw [cmp_overM (g := fun p => .bl (match lookK kvs (.inr p.1) with
            | some u => oneP n p.2 u
            | none => false))]
        · simp [List.all_map, Function.comp_def]
        · intro p hp
          cases q : lookK kvs (.inr p.1) with
          | none => simp [turnF, bindT, wipeR, setAll, inD_key, q]
          | some u => simp [turnF, bindT, wipeR, setAll, inD_key, q, ih1 p.2 u (h3 p hp)]
      · simp [e]
    | @knd _ ps h1 h2 h3 h4 h5 =>
      have hk : ∀ (a u : D), sem (j + 2 * n + 3) "is_of_kind" [.d (.tup [.str "kind", .tup (encs ps)]), .d (.tup [a, u])] S = .ok (.bl (match a with
          | .str z => ps.any fun p => z == p.1 && oneP n p.2 u
          | _ => false)) S := fun a u => by
        rw [show j + 2 * n + 3 = (j + 2 * n + 2) + 1 by omega, u_is_of_kind]
        unfold m_is_of_kind
        rw [encs_map]
        simp
        rw [cmp_overM (g := fun p => .bl (match a with
          | .str z => z == p.1 && oneP n p.2 u
          | _ => false))]
        · cases a <;> simp [List.any_map, Function.comp_def]
        · intro p hp
          have := ih j p.2 u S (h4 p hp)
          cases a <;> simp [turnF, bindT, wipeR, setAll, isi]
          rename_i z
          by_cases e : z = p.1 <;> simp [e, this]
      cases t <;> simp [enc, isi, oneP]
      rename_i xs
      match xs with
      | [] => simp
      | [a] => simp
      | a :: b :: c :: r =>
        have e : ¬ ((r.length : Int) + 1 + 1 + 1 = 2) := by omega
        simp [e]
      | [a, u] =>
        simp [hk a u]
        cases a <;> simp
theorem of_ok (j : Nat) (s : Sh) (t : D) (S : Sx) (h : Gd 4 s) : sem (j + 14) "is_of" [.d (enc s), .d t] S = .ok (.bl (oneP 4 s t)) S := by
  rw [u_is_of]
  unfold m_is_of
  have e1 := look_ok j s h S
  have e2 := one_ok 4 (j + 3) s t S h
  rw [show j + 3 + 2 * 4 + 2 = j + 13 by omega] at e2
  simp [e1, e2]
end Law
namespace Law
open PySem L2 G
/-! ### loops that gather -/
theorem for_acc {α γ : Type} {t : Tgt} {f : Fs} {en : α → D} {g : α → List D} {mk : List D → γ → Rho} {S : Sx} : ∀ {xs : List α}, (∀ a ∈ xs, ∀ acc v, acc.length + (g a).length ≤ 16777216 → ∃ ρ' v', bindT t (en a) (mk acc v) = some ρ' ∧ f ρ' S = .nx (mk (acc ++ g a) v') S) →
    ∀ (acc : List D) (v : γ), acc.length + (xs.flatMap g).length ≤ 16777216 → ∃ v', forF t f (xs.map en) (mk acc v) S = .nx (mk (acc ++ xs.flatMap g) v') S
  | [], _, acc, v, _ => ⟨v, by simp [forF]⟩
  | a :: xs, h, acc, v, hl => by
    rw [List.flatMap_cons, List.length_append] at hl
    obtain ⟨ρ', v1, h1, h2⟩ := h a List.mem_cons_self acc v (by omega)
    obtain ⟨v2, h3⟩ := for_acc (xs := xs) (fun b hb => h b (List.mem_cons_of_mem _ hb)) (acc ++ g a) v1 (by rw [List.length_append]; omega)
    refine ⟨v2, ?_⟩
    rw [List.map_cons]
    simp only [forF, h1, h2, h3, List.flatMap_cons, List.append_assoc]
@[simp] theorem range_D (n : Nat) : rangeD 0 n = (List.range n).map fun i => .int (i : Nat) := by
  unfold rangeD; simp
/-! ### things -/
def kd (l : List (Str × D)) : List (Key × D) := l.map fun q => (Sum.inr q.1, q.2)
def look (l : List (Str × D)) (z : Str) : Option D := (l.find? fun q => decide (q.1 = z)).map (·.2)
@[simp] theorem look_kd (l : List (Str × D)) (z : Str) : lookK (kd l) (.inr z) = look l z := by
  unfold lookK look kd
  induction l with
  | nil => rfl
  | cons q r ih =>
    by_cases e : q.1 = z
    · simp [e]
    · simp [e]; simpa using ih
@[simp] theorem keyStrs_kd (l : List (Str × D)) : keyStrs (kd l) = some (l.map (·.1)) := by
  induction l with
  | nil => rfl
  | cons q r ih =>
    have : kd (q :: r) = (Sum.inr q.1, q.2) :: kd r := rfl
    rw [this]
    simp [keyStrs, ih]
@[simp] theorem kd_len (l : List (Str × D)) : (kd l).length = l.length := by simp [kd]
/-- a thing: lists and dicts of at most c, pairs that begin with a text; at most n deep -/
inductive Wd (c : Nat) : Nat → D → Prop
  | non {n : Nat} : Wd c n .non
  | bl {n : Nat} {b : Bool} : Wd c n (.bl b)
  | int {n : Nat} {i : Int} : Wd c n (.int i)
  | str {n : Nat} {z : Str} : Wd c n (.str z)
  | lst {n : Nat} {xs : List D} : xs.length ≤ c → (∀ x ∈ xs, Wd c n x) → Wd c (n + 1) (.lst xs)
  | tup0 {n : Nat} : Wd c (n + 1) (.tup [])
  | tup1 {n : Nat} {z : Str} : Wd c (n + 1) (.tup [.str z])
  | tup2 {n : Nat} {z : Str} {u : D} : Wd c n u → Wd c (n + 1) (.tup [.str z, u])
  | dct {n : Nat} {l : List (Str × D)} : l.length ≤ c → (∀ q ∈ l, Wd c n q.2) → (l.map (·.1)).Nodup → Wd c (n + 1) (.dct (kd l))
/-! ### faults -/
def fl (p : List D) (w : Str) : D := .tup [.tup p, .str w]
def recF (W : Sh → D → List D → List D) (kvs : List (Key × D)) (p : List D) (q : Str × Sh) : List D := match lookK kvs (.inr q.1) with
  | some u => W q.2 u (p ++ [.str q.1])
  | none => [fl (p ++ [.str q.1]) "lacking"]
noncomputable def unkF (ps : List (Str × Sh)) (ks : List Str) (p : List D) : List D := ((sortK ks).filter fun z => !(ps.map (·.1)).any (· == z)).map fun z => fl (p ++ [.str z]) "unknown"
noncomputable def wrP : Nat → Sh → D → List D → List D
  | 0, _, _, _ => []
  | n + 1, s, t, p => match s with
    | .num lo hi => (match t with
      | .int i => if i < lo then [fl p "small"] else if hi < i then [fl p "great"] else []
      | _ => [fl p "number"])
    | .tru => if isi .bool t = true then [] else [fl p "truth"]
    | .wrd ws => if oneP (n + 1) (.wrd ws) t = true then [] else [fl p "word"]
    | .txt m => (match t with
      | .str z => if letters z = true then (if m < z.length then [fl p "long"] else []) else [fl p "text"]
      | _ => [fl p "text"])
    | .lis s m => (match t with
      | .lst xs => (if m < xs.length then [fl p "long"] else []) ++ (List.range xs.length).flatMap fun i => wrP n s (xs.getD i .non) (p ++ [.int (i : Nat)])
      | _ => [fl p "list"])
    | .may s => (match t with
      | .non => []
      | t => wrP n s t p)
    | .knd ps => (match t with
      | .tup [.str z, u] => (match ps.find? fun q => q.1 == z with
        | some q => wrP n q.2 u (p ++ [.str z])
        | none => [fl p "kind"])
      | _ => [fl p "kind"])
    | .rcd ps => (match t with
      | .dct kvs => (match keyStrs kvs with
        | some ks => ps.flatMap (recF (wrP n) kvs p) ++ unkF ps ks p
        | none => [fl p "rec"])
      | _ => [fl p "rec"])
theorem filt {α β : Type} (P : α → Bool) (f : α → β) : ∀ xs : List α, (xs.filterMap fun z => if P z = true then some (f z) else none) = (xs.filter P).map f
  | [] => rfl
  | x :: xs => by
    have ih := filt P f xs
    cases e : P x <;> simp [List.filterMap_cons, List.filter_cons, e] <;> simpa using ih
theorem sort_perm (ks : List Str) : ∃ ys, sortK ks = ys ∧ (ys.Perm ks ∨ ys = ks) := by
  refine ⟨_, rfl, ?_⟩
  unfold sortK
  split
  · rename_i h; exact .inl (Classical.choose_spec h).1
  · exact .inr rfl
theorem sort_p (ks : List Str) : (sortK ks).Perm ks := by
  obtain ⟨ys, e, h | h⟩ := sort_perm ks
  · rw [e]; exact h
  · rw [e, h]
theorem flat_le {α : Type} (g : α → List D) (b : Nat) : ∀ xs : List α, (∀ x ∈ xs, (g x).length ≤ b) → (xs.flatMap g).length ≤ xs.length * b
  | [], _ => by simp
  | x :: xs, h => by
    rw [List.flatMap_cons, List.length_append, List.length_cons]
    have h1 := h x List.mem_cons_self
    have h2 := flat_le g b xs fun y hy => h y (List.mem_cons_of_mem _ hy)
    rw [Nat.succ_mul]
    omega
theorem look_mem {l : List (Str × D)} {z : Str} {u : D} (h : look l z = some u) : (z, u) ∈ l := by
  unfold look at h
  cases e : l.find? fun q => decide (q.1 = z) with
  | none => rw [e] at h; cases h
  | some q =>
    rw [e] at h
    have h1 := List.mem_of_find?_eq_some e
    have h2 := List.find?_some e
    simp at h h2
    rw [← h, ← h2]; exact h1
theorem wr_len : ∀ (n m : Nat) (s : Sh) (t : D) (p : List D), Gd n s → Wd 32 m t → (wrP n s t p).length ≤ 40 ^ n := by
  intro n
  induction n with
  | zero => intro m s t p h; cases h
  | succ n ih =>
    intro m s t p h w
    have b1 : 1 ≤ 40 ^ (n + 1) := Nat.pos_of_ne_zero (by simp)
    have b2 : 40 ^ (n + 1) = 40 ^ n * 40 := Nat.pow_succ ..
    have b3 : 1 ≤ 40 ^ n := Nat.pos_of_ne_zero (by simp)
    cases h with
    | num h1 h2 h3 =>
      unfold wrP
      dsimp only
      split
      · split
        · exact b1
        · split
          · exact b1
          · exact Nat.zero_le _
      · exact b1
    | tru => unfold wrP; dsimp only; split <;> simp [b1]
    | wrd h1 h2 h3 h4 => unfold wrP; dsimp only; split <;> simp [b1]
    | txt h1 =>
      unfold wrP
      dsimp only
      split
      · split
        · split <;> simp [b1]
        · simp [b1]
      · simp [b1]
    | @lis _ q s h1 h2 =>
      unfold wrP
      dsimp only
      split
      · rename_i xs
        cases w with
        | lst w1 w2 =>
          have := flat_le (fun i => wrP n s (xs.getD i .non) (p ++ [.int (i : Nat)])) (40 ^ n) (List.range xs.length) (fun i hi => by
            rw [List.mem_range] at hi
            have e : xs.getD i .non = xs[i] := by simp [hi]
            rw [e]
            exact ih _ s _ _ h1 (w2 _ (List.getElem_mem hi)))
          rw [List.length_range] at this
          have le : xs.length * 40 ^ n ≤ 32 * 40 ^ n := Nat.mul_le_mul_right _ w1
          rw [List.length_append]
          have l1 : (if q < xs.length then [fl p "long"] else []).length ≤ 1 := by split <;> simp
          omega
      · simp [b1]
    | @may _ s h1 h2 =>
      unfold wrP
      dsimp only
      split
      · simp
      · have := ih _ s t p h1 w; omega
    | @rcd _ ps h1 h2 h3 h4 =>
      unfold wrP
      dsimp only
      split
      · cases w with
        | @dct k l w1 w2 w3 =>
          simp only [keyStrs_kd]
          have := flat_le (recF (wrP n) (kd l) p) (40 ^ n) ps (fun q hq => by
            unfold recF
            simp only [look_kd]
            cases e : look l q.1 with
            | none => simpa using b3
            | some u => exact ih _ q.2 u _ (h3 q hq) (w2 _ (look_mem e)))
          have le : ps.length * 40 ^ n ≤ 4 * 40 ^ n := Nat.mul_le_mul_right _ h1
          have l2 : (unkF ps (l.map (·.1)) p).length ≤ 32 := by
            unfold unkF
            rw [List.length_map]
            refine Nat.le_trans (List.length_filter_le _ _) ?_
            rw [(sort_p _).length_eq, List.length_map]
            exact w1
          rw [List.length_append]
          omega
      · simp [b1]
    | @knd _ ps h0 h1 h2 h3 h4 =>
      unfold wrP
      dsimp only
      split
      · split
        · rename_i q e
          cases w with
          | tup2 w1 =>
            exact Nat.le_trans (ih _ q.2 _ _ (h3 q (List.mem_of_find?_eq_some e)) w1) (by omega)
        · simp [b1]
      · simp [b1]
end Law
namespace Law
open PySem L2 G
theorem pow40 {n : Nat} (h : n ≤ 4) : 40 ^ n ≤ 2560000 := Nat.le_trans (Nat.pow_le_pow_right (by decide) h) (by decide)
@[simp] theorem in_tw (z : Str) : inD (.str z) (.tup [.str "truth", .str "word"]) = some (.bl ((("truth" : Str) == z) || (("word" : Str) == z))) := by
  have := inD_words (ws := ["truth", "word"]) (z := z)
  simpa using this
theorem notIn_words {ws : List Str} {z : Str} : notInD (.str z) (.lst (ws.map .str)) = some (.bl (!ws.any fun w => w == z)) := by
  have h : (ws.map D.str).all flatD = true := by simp [flatD]
  have e : (inB (.str z) (.lst (ws.map .str))) = inSeq (.str z) (ws.map .str) := by
    unfold inB
    split <;> simp_all
  simp [notInD, e, inSeq, flatD, h, eqF, List.any_map, Function.comp_def]
theorem find_any {ps : List (Str × Sh)} {z : Str} : (ps.filterMap fun q => if (q.1 == z) = true then some (enc q.2) else none) = (match ps.find? fun q => q.1 == z with
  | some q => enc q.2 :: ((ps.filterMap fun q => if (q.1 == z) = true then some (enc q.2) else none)).tail
  | none => []) := by
  induction ps with
  | nil => rfl
  | cons q r ih =>
    by_cases e : q.1 = z
    · simp [e]
    · simp [e]
      have : (r.find? fun q => q.1 == z) = r.find? fun q => q.1 == z := rfl
      simpa using ih
theorem part_ok (j : Nat) (w : Str) (ps : List (Str × Sh)) (z : Str) (S : Sx) : sem (j + 1) "part_of" [.d (.tup [.str w, .tup (encs ps)]), .d (.str z)] S = .ok (match ps.find? fun q => q.1 == z with
    | some q => enc q.2
    | none => .non) S := by
  rw [u_part_of]
  unfold m_part_of
  rw [encs_map]
  simp
  rw [cmp_over (g := fun q => if (q.1 == z) = true then some (enc q.2) else none)]
  · rw [find_any]
    cases ps.find? fun q => q.1 == z <;> simp [truA]
  · intro q hq
    by_cases e : q.1 = z <;> simp [turnF, bindT, wipeR, setAll, e]
@[simp] theorem dats_1 (a : D) : dats [.d a] = some [a] := rfl
theorem list_step (j n : Nat) (s : Sh) (xs : List D) (p : List D) (S : Sx) (mk : List D → Option A → Rho) : True := trivial
theorem wrong_ok : ∀ (n j m : Nat) (s : Sh) (t : D) (p : List D) (S : Sx), n ≤ 4 → Gd n s → Wd 32 m t → p.length + n ≤ 100 → sem (j + 2 * n + 3) "wrong" [.d (enc s), .d t, .d (.tup p)] S = .ok (.lst (wrP n s t p)) S := by
  intro n
  induction n with
  | zero => intro j m s t p S _ h; cases h
  | succ n ih =>
    intro j m s t p S hn h w hp
    have hk : j + 2 * (n + 1) + 3 = (j + 2 * n + 4) + 1 := by omega
    have hn' : n ≤ 4 := by omega
    have hP : 40 ^ n ≤ 2560000 := pow40 hn'
    have ih1 : ∀ (m : Nat) (s : Sh) (t : D) (p : List D), Gd n s → Wd 32 m t → p.length + n ≤ 100 → sem (j + 2 * n + 4) "wrong" [.d (enc s), .d t, .d (.tup p)] S = .ok (.lst (wrP n s t p)) S := fun m s t p hs hw hl => by
      have := ih (j + 1) m s t p S hn' hs hw hl
      rw [show j + 1 + 2 * n + 3 = j + 2 * n + 4 by omega] at this
      exact this
    have hlen := wr_len (n + 1) m s t p h w
    have hP1 : 40 ^ (n + 1) ≤ 2560000 := pow40 hn
    have one : sem (j + 2 * n + 4) "is_one" [.d (enc s), .d t] S = .ok (.bl (oneP (n + 1) s t)) S := by
      have := one_ok (n + 1) j s t S h
      rw [show j + 2 * (n + 1) + 2 = j + 2 * n + 4 by omega] at this
      exact this
    rw [hk, u_wrong]
    unfold m_wrong
    cases h with
    | @num _ lo hi h1 h2 h3 =>
      cases t <;> simp [enc, isi, wrP, fl]
      rename_i i
      by_cases e1 : i < lo
      · simp [e1]
      · by_cases e2 : hi < i <;> simp [e1, e2]
    | tru =>
      cases t <;> simp [enc, isi, wrP, fl, oneP] <;> simp [enc, oneP, isi] at one <;> simp [one]
    | @wrd _ ws h1 h2 h3 h4 =>
      simp [enc] at one
      by_cases e : oneP (n + 1) (.wrd ws) t = true <;> simp [enc, wrP, fl, one, e]
    | @txt _ q h1 =>
      cases t <;> simp [enc, isi, wrP, fl]
      rename_i z
      rw [sign_comp (y := "abc") (fun c => by simp [turnF, bindT, wipeR])]
      have e0 : ((z.cps.toList.map fun c => decide (c ∈ ("abc" : Str).cps.toList)).all id) = letters z := by simp [letters, List.all_map, Function.comp_def]
      simp only [bind_ok, allG_lst, boolsOf_map, Option.map_some, ofO_some, toB_bl, e0, onT_ok]
      cases letters z with
      | false => simp
      | true =>
        by_cases e : q < z.length
        · have e' : (q : Int) < (z.length : Int) := by omega
          simp [e]
        · have e' : ¬ (q : Int) < (z.length : Int) := by omega
          simp [e]
    | @may _ s h1 h2 =>
      cases t <;> simp [enc, isN, wrP] <;> simp [ih1 m s _ p h1 w (by omega)]
    | @lis _ q s h1 h2 =>
      simp [enc]
      rw [show j + 2 * n + 4 = (j + 2 * n + 3) + 1 by omega, u_wrong_list]
      unfold m_wrong_list
      cases w with
      | @lst c xs w1 w2 =>
        have e3 : ((xs.length : Nat) : Int) ≤ 16777216 := by omega
        have e4 : ∀ i : Int, -(2 ^ 30) ≤ ((xs.length : Nat) : Int) := by intro _; omega
        have step : ∀ (pre : List D), pre.length ≤ 1 → ∃ v', forF (.n 4) (sExt 3 (eOwn (sem (j + 2 * n + 3) "wrong") (aCons (eIx (eVar 0) (eC (.int 1))) (aCons (eIx (eVar 1) (eVar 4)) (aCons (eOp addD (eVar 2) (eTup (aCons (eVar 4) aNil))) aNil))))) ((List.range xs.length).map fun i => .int (i : Nat))
            [some (.d (.tup [.str "list", enc s, .int q])), some (.d (.lst xs)), some (.d (.tup p)), some (.d (.lst pre)), none] S =
            .nx [some (.d (.tup [.str "list", enc s, .int q])), some (.d (.lst xs)), some (.d (.tup p)), some (.d (.lst (pre ++ (List.range xs.length).flatMap fun i => wrP n s (xs.getD i .non) (p ++ [.int (i : Nat)])))), v'] S := by
          intro pre hpre
          refine for_acc (mk := fun acc v => [some (.d (.tup [.str "list", enc s, .int q])), some (.d (.lst xs)), some (.d (.tup p)), some (.d (.lst acc)), v]) (fun i hi acc v hl => ?_) pre none ?_
          · rw [List.mem_range] at hi
            have ei : xs.getD i .non = xs[i] := by simp [hi]
            have := ih j c s xs[i] (p ++ [.int (i : Nat)]) S hn' h1 (w2 _ (List.getElem_mem hi)) (by rw [List.length_append]; simp; omega)
            refine ⟨_, some (.d (.int (i : Nat))), rfl, ?_⟩
            rw [ei] at hl ⊢
            have hpl : p.length + 1 ≤ 16777216 := by omega
            simp [atI_nat hi, hpl, this, hl]
          · have := flat_le (fun i => wrP n s (xs.getD i .non) (p ++ [.int (i : Nat)])) (40 ^ n) (List.range xs.length) (fun i hi => by
              rw [List.mem_range] at hi
              have e : xs.getD i .non = xs[i] := by simp [hi]
              rw [e]
              exact wr_len n c s _ _ h1 (w2 _ (List.getElem_mem hi)))
            rw [List.length_range] at this
            have le : xs.length * 40 ^ n ≤ 32 * 2560000 := Nat.mul_le_mul w1 hP
            have hP3 : 40 ^ (n + 1) = 40 ^ n * 40 := Nat.pow_succ ..
            have le2 : xs.length * 40 ^ n ≤ 32 * 40 ^ n := Nat.mul_le_mul_right _ w1
            omega
        by_cases e : q < xs.length
        · obtain ⟨v', e5⟩ := step [fl p "long"] (by simp)
          simp [isi, e3, e, wrP, fl] at e5 ⊢
          rw [e5]
          simp
        · obtain ⟨v', e5⟩ := step [] (by simp)
          simp [isi, e3, e, wrP, fl] at e5 ⊢
          rw [e5]
          simp
      | _ => simp [isi, wrP, fl]
    | @rcd _ ps h1 h2 h3 h4 =>
      simp [enc]
      rw [show j + 2 * n + 4 = (j + 2 * n + 3) + 1 by omega, u_wrong_rec]
      unfold m_wrong_rec
      cases w with
      | @dct c l w1 w2 w3 =>
        rw [encs_map]
        have hpl : p.length + 1 ≤ 16777216 := by omega
        have c1 : ∀ a b d e f g, compF (.n 5) [5] tYesF (eIsi .str (eVar 5)) [a, b, d, e, f, g, none] ((kd l).map fun kv => keyVal kv.1) S = .ok ((l.map fun _ => true).map .bl) S := fun a b d e f g => by
          have : ((kd l).map fun kv => keyVal kv.1) = l.map fun q => D.str q.1 := by simp [kd, keyVal]
          rw [this, cmp_overM (g := fun _ => .bl true)]
          · simp
          · intro q hq; simp [turnF, bindT, wipeR, isi]
        have gl : ∀ q ∈ ps, (recF (wrP n) (kd l) p q).length ≤ 40 ^ n := fun q hq => by
          unfold recF
          simp only [look_kd]
          cases e : look l q.1 with
          | none => exact Nat.pos_of_ne_zero (by simp)
          | some u => exact wr_len n c q.2 u _ (h3 q hq) (w2 _ (look_mem e))
        have fl1 := flat_le (recF (wrP n) (kd l) p) (40 ^ n) ps gl
        have fl2 : ps.length * 40 ^ n ≤ 4 * 40 ^ n := Nat.mul_le_mul_right _ h1
        have hfin : ([] : List D).length + (ps.flatMap (recF (wrP n) (kd l) p)).length ≤ 16777216 := by rw [List.length_nil]; omega
        have step : ∃ v' : Option A × Option A, forF (.t [5, 6]) (sIf (tst (eOp inD (eVar 5) (eVar 1))) (sExt 3 (eOwn (sem (j + 2 * n + 3) "wrong") (aCons (eVar 6) (aCons (eIx (eVar 1) (eVar 5)) (aCons (eOp addD (eVar 2) (eTup (aCons (eVar 5) aNil))) aNil))))) (sApp 3 (eTup (aCons (eOp addD (eVar 2) (eTup (aCons (eVar 5) aNil))) (aCons (eC (.str "lacking")) aNil))))) (ps.map encp)
            [some (.d (.tup [.str "rec", .tup (ps.map encp)])), some (.d (.dct (kd l))), some (.d (.tup p)), some (.d (.lst [])), none, none, none] S =
            .nx [some (.d (.tup [.str "rec", .tup (ps.map encp)])), some (.d (.dct (kd l))), some (.d (.tup p)), some (.d (.lst ([] ++ ps.flatMap (recF (wrP n) (kd l) p)))), none, v'.1, v'.2] S := by
          refine for_acc (mk := fun acc v => [some (.d (.tup [.str "rec", .tup (ps.map encp)])), some (.d (.dct (kd l))), some (.d (.tup p)), some (.d (.lst acc)), none, v.1, v.2]) (fun q hq acc v hl => ?_) [] (none, none) hfin
          refine ⟨_, (some (.d (.str q.1)), some (.d (enc q.2))), by rw [encp_e]; rfl, ?_⟩
          unfold recF at hl ⊢
          simp only [look_kd] at hl ⊢
          cases e : look l q.1 with
          | none =>
            rw [e] at hl
            simp at hl
            have hl' : acc.length < 16777216 := by omega
            simp [setAll, inD_key, e, hpl, hl', fl]
          | some u =>
            rw [e] at hl
            have := ih j c q.2 u (p ++ [.str q.1]) S hn' (h3 q hq) (w2 _ (look_mem e)) (by rw [List.length_append]; simp; omega)
            simp at hl
            simp [setAll, inD_key, e, hpl, this, hl]
        obtain ⟨v', e5⟩ := step
        have c2 : ∀ ρ0 a b : Option A, True := fun _ _ _ => trivial
        have c3 : ∀ a b d e f g h, compF (.t [5, 6]) [5, 6] tYesF (eVar 5) [a, b, d, e, f, g, h] (ps.map encp) S = .ok ((ps.map (·.1)).map .str) S := fun a b d e f g h => by
          rw [cmp_overM (g := fun q => .str q.1)]
          · simp
          · intro q hq; simp [turnF, bindT, wipeR, setAll]
        have h64 : l.length < 64 := by omega
        have c4 : ∀ a b e g h, compF (.n 5) [5] (tst (eOp notInD (eVar 5) (eVar 4))) (eTup (aCons (eOp addD (eVar 2) (eTup (aCons (eVar 5) aNil))) (aCons (eC (.str "unknown")) aNil))) [a, b, some (.d (.tup p)), e, some (.d (.lst ((ps.map (·.1)).map .str))), g, h] ((sortK (l.map (·.1))).map .str) S =
            .ok (unkF ps (l.map (·.1)) p) S := fun a b e g h => by
          rw [cmp_over (g := fun z => if (!(ps.map (·.1)).any (· == z)) = true then some (fl (p ++ [.str z]) "unknown") else none)]
          · rw [filt]; rfl
          · intro z hz
            by_cases q : ((ps.map (·.1)).any fun w => w == z) = true
            · simp only [turnF, bindT, wipeR, List.set_cons_succ, List.set_cons_zero, ev_tst, ev_op, ev_var, List.getElem?_cons_succ, List.getElem?_cons_zero, bind_ok, op2_d, notIn_words, q, ofO_some, Bool.not_true, toB_bl, noX_ok, if_false, Bool.false_eq_true]
            · simp only [Bool.not_eq_true] at q
              simp only [turnF, bindT, wipeR, List.set_cons_succ, List.set_cons_zero, ev_tst, ev_op, ev_var, List.getElem?_cons_succ, List.getElem?_cons_zero, bind_ok, op2_d, notIn_words, q, ofO_some, Bool.not_false, toB_bl, noX_ok, if_true]
              simp [hpl, fl]
        unfold wrP at hlen ⊢
        simp only [keyStrs_kd, List.length_append] at hlen ⊢
        have hz : (ps.flatMap (recF (wrP n) (kd l) p)).length + (unkF ps (l.map (·.1)) p).length ≤ 16777216 := Nat.le_trans hlen (by omega)
        simp only [List.nil_append] at e5
        simp [-List.map_map, -List.length_flatMap, isi, c1, e5, c3, sortKeysD, h64, c4, hz]
      | _ => simp [isi, wrP, fl]
    | @knd _ ps h1 h2 h3 h4 h5 =>
      simp [enc]
      rw [show j + 2 * n + 4 = (j + 2 * n + 3) + 1 by omega, u_wrong_kind]
      unfold m_wrong_kind
      have hpl : p.length + 1 ≤ 16777216 := by omega
      cases w with
      | tup0 => simp [isi, wrP, fl]
      | tup1 => simp [isi, wrP, fl]
      | @tup2 c z u w1 =>
        have e1 := part_ok (j + 2 * n + 2) "kind" ps z S
        rw [show j + 2 * n + 2 + 1 = j + 2 * n + 3 by omega] at e1
        cases e : ps.find? fun q => q.1 == z with
        | none =>
          rw [e] at e1
          simp [isi, wrP, fl, e1, e, isN]
        | some q =>
          rw [e] at e1
          obtain ⟨w0, r0, es, _⟩ := enc_shape q.2
          have := ih j c q.2 u (p ++ [.str z]) S hn' (h4 q (List.mem_of_find?_eq_some e)) w1 (by rw [List.length_append]; simp; omega)
          simp only [es] at this e1
          simp [isi, wrP, e1, e, isN, es, hpl, this]
      | _ => simp [isi, wrP, fl]
end Law
namespace Law
open PySem L2 G
theorem faults_ok (j m : Nat) (s : Sh) (t : D) (S : Sx) (h : Gd 4 s) (w : Wd 32 m t) : sem (j + 14) "faults" [.d (enc s), .d t] S = .ok (.lst (wrP 4 s t [])) S := by
  rw [u_faults]
  unfold m_faults
  have e1 := look_ok j s h S
  have e2 := wrong_ok 4 (j + 2) m s t [] S (by omega) h w (by simp)
  rw [show j + 2 + 2 * 4 + 3 = j + 13 by omega] at e2
  simp [e1, e2]
theorem same_ok (j : Nat) (a b : Str) (S : Sx) : sem (j + 1) "_law_same" [.d (.str a), .d (.str b)] S = .ok (.bl (a == b)) S := by
  rw [u_law_same]
  unfold m_law_same
  by_cases e : a = b <;> simp [isi, e]
theorem lpart_ok (j : Nat) (w : Str) (ps : List (Str × Sh)) (z : Str) (S : Sx) : sem (j + 2) "_law_part" [.d (.tup [.str w, .tup (encs ps)]), .d (.str z)] S = .ok (match ps.find? fun q => q.1 == z with
    | some q => enc q.2
    | none => .non) S := by
  rw [u_law_part]
  unfold m_law_part
  rw [encs_map]
  simp
  rw [cmp_over (g := fun q => if (q.1 == z) = true then some (enc q.2) else none)]
  · rw [find_any]
    cases ps.find? fun q => q.1 == z <;> simp
  · intro q hq
    by_cases e : q.1 = z <;> simp [turnF, bindT, wipeR, setAll, e, same_ok]
@[simp] theorem mul_b (x : D) (b : Bool) : mulD (.lst [x]) (.int (if b = true then 1 else 0)) = some (.lst (if b = true then [x] else [])) := by
  cases b <;> simp [mulD]
@[simp] theorem mul_1 (x : D) : mulD (.lst [x]) (.int 1) = some (.lst [x]) := by simp [mulD]
@[simp] theorem mul_0 (x : D) : mulD (.lst [x]) (.int 0) = some (.lst []) := by simp [mulD]
theorem sign_filt {i : Nat} {z : Str} {ρ : Rho} {S : Sx} {ft : Ft} {fe : Fe} (h : ∀ c, turnF (.n i) [i] ft fe (.str ⟨#[c]⟩) ρ S = .ok (if (!decide (c ∈ ("abc" : Str).cps.toList)) = true then some (.str ⟨#[c]⟩) else none) S) :
    compF (.n i) [i] ft fe ρ (signs z) S = .ok ((z.cps.toList.filter fun c => !decide (c ∈ ("abc" : Str).cps.toList)).map fun c => .str ⟨#[c]⟩) S := by
  unfold signs
  rw [cmp_over (g := fun c => if (!decide (c ∈ ("abc" : Str).cps.toList)) = true then some (.str ⟨#[c]⟩) else none) (fun c _ => h c), filt]
theorem let_empty (z : Str) : (z.cps.toList.filter fun c => !decide (c ∈ ("abc" : Str).cps.toList)).isEmpty = letters z := by
  unfold letters
  rw [Bool.eq_iff_iff, List.isEmpty_iff, List.filter_eq_nil_iff, List.all_eq_true]
  simp only [Bool.not_eq_true', Bool.not_eq_false, decide_eq_false_iff_not, Decidable.not_not, decide_eq_true_eq]
theorem lplain_ok (j n m : Nat) (s : Sh) (t : D) (p : List D) (S : Sx) (h : Gd (n + 1) s) (hs : match s with
    | .num _ _ => True
    | .tru => True
    | .wrd _ => True
    | .txt _ => True
    | _ => False) : sem (j + 1) "_law_plain" [.d (enc s), .d t, .d (.tup p)] S = .ok (.lst (wrP (n + 1) s t p)) S := by
  rw [u_law_plain]
  unfold m_law_plain
  cases h with
  | @num _ lo hi h1 h2 h3 =>
    cases t <;> simp [enc, isi, wrP, fl]
    rename_i i
    by_cases e1 : i < lo
    · have e2 : ¬ hi < i := by omega
      simp [e1, e2, intG]
    · by_cases e2 : hi < i <;> simp [e1, e2, intG]
  | tru => cases t <;> simp [enc, isi, wrP, fl]
  | @wrd _ ws h1 h2 h3 h4 =>
    cases t <;> simp [enc, isi, wrP, fl, oneP]
    rename_i z
    have e0 : inD (.str z) (.lst (ws.map .str)) = some (.bl (ws.any fun w => w == z)) := by
      have h : (ws.map D.str).all flatD = true := by simp [flatD]
      have e : (inB (.str z) (.lst (ws.map .str))) = inSeq (.str z) (ws.map .str) := by
        unfold inB
        split <;> simp_all
      simp [inD, e, inSeq, flatD, h, eqF, List.any_map, Function.comp_def]
    by_cases e : (ws.any fun w => w == z) = true
    · simp only [listG, Option.map_some, ofO_some, bind_ok, op2_d, e0, e, toB_bl, onT_ok, if_true]
      simp
      simpa using e
    · simp only [listG, Option.map_some, ofO_some, bind_ok, op2_d, e0, e, toB_bl, onT_ok]
      simp
      simpa using e
  | @txt _ q h1 =>
    cases t <;> simp [enc, isi, wrP, fl]
    rename_i z
    rw [sign_filt (fun c => by by_cases e : c ∈ ("abc" : Str).cps.toList <;> simp [turnF, bindT, wipeR, e])]
    have e1 : eqD (.lst ((z.cps.toList.filter fun c => !decide (c ∈ ("abc" : Str).cps.toList)).map fun c => .str ⟨#[c]⟩)) (.lst []) = some (letters z) := by rw [eqD_nil, List.isEmpty_map, let_empty]
    simp only [bind_ok, op2_d, neO_e, e1, Option.map_some, ofO_some, toB_bl, onT_ok]
    cases letters z with
    | false => simp
    | true =>
      by_cases e : q < z.length
      · simp [e, intG]
      · simp [e, intG]
  | _ => exact hs.elim
theorem lwrong_ok : ∀ (n j m : Nat) (s : Sh) (t : D) (p : List D) (S : Sx), n ≤ 4 → Gd n s → Wd 32 m t → p.length + n ≤ 100 → sem (j + 2 * n + 4) "_law_wrong" [.d (enc s), .d t, .d (.tup p)] S = .ok (.lst (wrP n s t p)) S := by
  intro n
  induction n with
  | zero => intro j m s t p S _ h; cases h
  | succ n ih =>
    intro j m s t p S hn h w hp
    have hk : j + 2 * (n + 1) + 4 = (j + 2 * n + 5) + 1 := by omega
    have hn' : n ≤ 4 := by omega
    have hP : 40 ^ n ≤ 2560000 := pow40 hn'
    have ih1 : ∀ (m : Nat) (s : Sh) (t : D) (p : List D), Gd n s → Wd 32 m t → p.length + n ≤ 100 → sem (j + 2 * n + 5) "_law_wrong" [.d (enc s), .d t, .d (.tup p)] S = .ok (.lst (wrP n s t p)) S := fun m s t p hs hw hl => by
      have := ih (j + 1) m s t p S hn' hs hw hl
      rw [show j + 1 + 2 * n + 4 = j + 2 * n + 5 by omega] at this
      exact this
    have hlen := wr_len (n + 1) m s t p h w
    have hP1 : 40 ^ (n + 1) ≤ 2560000 := pow40 hn
    have hP3 : 40 ^ (n + 1) = 40 ^ n * 40 := Nat.pow_succ ..
    have hpl : p.length + 1 ≤ 16777216 := by omega
    have pl : ∀ hs, sem (j + 2 * n + 5) "_law_plain" [.d (enc s), .d t, .d (.tup p)] S = .ok (.lst (wrP (n + 1) s t p)) S := fun hs => lplain_ok (j + 2 * n + 4) n m s t p S h hs
    rw [hk, u_law_wrong]
    unfold m_law_wrong
    cases h with
    | @num _ lo hi h1 h2 h3 =>
      have := pl trivial
      simp [enc] at this ⊢
      simp [this]
    | tru =>
      have := pl trivial
      simp [enc] at this ⊢
      simp [this]
    | @wrd _ ws h1 h2 h3 h4 =>
      have := pl trivial
      simp [enc] at this ⊢
      simp [this]
    | @txt _ q h1 =>
      have := pl trivial
      simp [enc] at this ⊢
      simp [this]
    | @may _ s h1 h2 =>
      cases t <;> simp [enc, isN, wrP] <;> simp [ih1 m s _ p h1 w (by omega)]
    | @lis _ q s h1 h2 =>
      simp [enc]
      cases w with
      | @lst c xs w1 w2 =>
        have e3 : ((xs.length : Nat) : Int) ≤ 16777216 := by omega
        have step : ∀ (pre : List D), pre.length ≤ 1 → ∃ v', forF (.n 5) (sAsg 4 (eOp addD (eVar 4) (eOwn (sem (j + 2 * n + 5) "_law_wrong") (aCons (eIx (eVar 0) (eC (.int 1))) (aCons (eIx (eVar 1) (eVar 5)) (aCons (eOp addD (eVar 2) (eTup (aCons (eVar 5) aNil))) aNil)))))) ((List.range xs.length).map fun i => .int (i : Nat))
            [some (.d (.tup [.str "list", enc s, .int q])), some (.d (.lst xs)), some (.d (.tup p)), some (.d (.str "list")), some (.d (.lst pre)), none, none, none, none] S =
            .nx [some (.d (.tup [.str "list", enc s, .int q])), some (.d (.lst xs)), some (.d (.tup p)), some (.d (.str "list")), some (.d (.lst (pre ++ (List.range xs.length).flatMap fun i => wrP n s (xs.getD i .non) (p ++ [.int (i : Nat)])))), v', none, none, none] S := by
          intro pre hpre
          refine for_acc (mk := fun acc v => [some (.d (.tup [.str "list", enc s, .int q])), some (.d (.lst xs)), some (.d (.tup p)), some (.d (.str "list")), some (.d (.lst acc)), v, none, none, none]) (fun i hi acc v hl => ?_) pre none ?_
          · rw [List.mem_range] at hi
            have ei : xs.getD i .non = xs[i] := by simp [hi]
            have := ih1 c s xs[i] (p ++ [.int (i : Nat)]) h1 (w2 _ (List.getElem_mem hi)) (by rw [List.length_append]; simp; omega)
            refine ⟨_, some (.d (.int (i : Nat))), rfl, ?_⟩
            rw [ei] at hl ⊢
            simp [atI_nat hi, hpl, this, hl]
          · have := flat_le (fun i => wrP n s (xs.getD i .non) (p ++ [.int (i : Nat)])) (40 ^ n) (List.range xs.length) (fun i hi => by
              rw [List.mem_range] at hi
              have e : xs.getD i .non = xs[i] := by simp [hi]
              rw [e]
              exact wr_len n c s _ _ h1 (w2 _ (List.getElem_mem hi)))
            rw [List.length_range] at this
            have le2 : xs.length * 40 ^ n ≤ 32 * 40 ^ n := Nat.mul_le_mul_right _ w1
            omega
        by_cases e : q < xs.length
        · obtain ⟨v', e5⟩ := step [fl p "long"] (by simp)
          simp [isi, e3, e, wrP, fl, intG] at e5 ⊢
          rw [e5]
          simp
        · obtain ⟨v', e5⟩ := step [] (by simp)
          simp [isi, e3, e, wrP, fl, intG] at e5 ⊢
          rw [e5]
          simp
      | _ => simp [isi, wrP, fl]
    | @rcd _ ps h1 h2 h3 h4 =>
      simp [enc]
      cases w with
      | @dct c l w1 w2 w3 =>
        rw [encs_map]
        have c1 : ∀ ρ : Rho, ρ.length = 9 → compF (.n 7) [7] (tNotF (tst (eIsi .str (eVar 7)))) (eVar 7) ρ ((kd l).map fun kv => keyVal kv.1) S = .ok [] S := fun ρ hρ => by
          have : ((kd l).map fun kv => keyVal kv.1) = l.map fun q => D.str q.1 := by simp [kd, keyVal]
          rw [this, cmp_over (g := fun _ => none)]
          · simp
          · intro q hq
            match ρ, hρ with
            | [a1, a2, a3, a4, a5, a6, a7, a8, a9], _ => simp [turnF, bindT, wipeR, isi]
        have gl : ∀ q ∈ ps, (recF (wrP n) (kd l) p q).length ≤ 40 ^ n := fun q hq => by
          unfold recF
          simp only [look_kd]
          cases e : look l q.1 with
          | none => exact Nat.pos_of_ne_zero (by simp)
          | some u => exact wr_len n c q.2 u _ (h3 q hq) (w2 _ (look_mem e))
        have fl1 := flat_le (recF (wrP n) (kd l) p) (40 ^ n) ps gl
        have fl2 : ps.length * 40 ^ n ≤ 4 * 40 ^ n := Nat.mul_le_mul_right _ h1
        have hfin : ([] : List D).length + (ps.flatMap (recF (wrP n) (kd l) p)).length ≤ 16777216 := by rw [List.length_nil]; omega
        have step : ∃ v' : Option A × Option A, forF (.t [7, 8]) (sIf (tst (eOp inD (eVar 7) (eVar 1))) (sAsgN 4 (nCat (eVar 4) (eOwn (sem (j + 2 * n + 5) "_law_wrong") (aCons (eVar 8) (aCons (eIx (eVar 1) (eVar 7)) (aCons (eOp addD (eVar 2) (eTup (aCons (eVar 7) aNil))) aNil)))))) (sApp 4 (eTup (aCons (eOp addD (eVar 2) (eTup (aCons (eVar 7) aNil))) (aCons (eC (.str "lacking")) aNil))))) (ps.map encp)
            [some (.d (.tup [.str "rec", .tup (ps.map encp)])), some (.d (.dct (kd l))), some (.d (.tup p)), some (.d (.str "rec")), some (.d (.lst [])), none, none, none, none] S =
            .nx [some (.d (.tup [.str "rec", .tup (ps.map encp)])), some (.d (.dct (kd l))), some (.d (.tup p)), some (.d (.str "rec")), some (.d (.lst ([] ++ ps.flatMap (recF (wrP n) (kd l) p)))), none, none, v'.1, v'.2] S := by
          refine for_acc (mk := fun acc v => [some (.d (.tup [.str "rec", .tup (ps.map encp)])), some (.d (.dct (kd l))), some (.d (.tup p)), some (.d (.str "rec")), some (.d (.lst acc)), none, none, v.1, v.2]) (fun q hq acc v hl => ?_) [] (none, none) hfin
          refine ⟨_, (some (.d (.str q.1)), some (.d (enc q.2))), by rw [encp_e]; rfl, ?_⟩
          unfold recF at hl ⊢
          simp only [look_kd] at hl ⊢
          cases e : look l q.1 with
          | none =>
            rw [e] at hl
            simp at hl
            have hl' : acc.length < 16777216 := by omega
            simp [setAll, inD_key, e, hpl, hl', fl]
          | some u =>
            rw [e] at hl
            have := ih1 c q.2 u (p ++ [.str q.1]) (h3 q hq) (w2 _ (look_mem e)) (by rw [List.length_append]; simp; omega)
            simp at hl
            simp [setAll, inD_key, e, hpl, this, hl, catN]
        obtain ⟨v', e5⟩ := step
        have c3 : ∀ ρ : Rho, ρ.length = 9 → compF (.t [7, 8]) [7, 8] tYesF (eVar 7) ρ (ps.map encp) S = .ok ((ps.map (·.1)).map .str) S := fun ρ hρ => by
          rw [cmp_overM (g := fun q => .str q.1)]
          · simp
          · intro q hq
            match ρ, hρ with
            | [a1, a2, a3, a4, a5, a6, a7, a8, a9], _ => simp [turnF, bindT, wipeR, setAll]
        have h64 : l.length < 64 := by omega
        have c4 : ∀ a1 a2 a4 a5 a6 a8 a9, compF (.n 7) [7] (tst (eOp notInD (eVar 7) (eVar 6))) (eTup (aCons (eOp addD (eVar 2) (eTup (aCons (eVar 7) aNil))) (aCons (eC (.str "unknown")) aNil))) [a1, a2, some (.d (.tup p)), a4, a5, a6, some (.d (.lst ((ps.map (·.1)).map .str))), a8, a9] ((sortK (l.map (·.1))).map .str) S =
            .ok (unkF ps (l.map (·.1)) p) S := fun a1 a2 a4 a5 a6 a8 a9 => by
          rw [cmp_over (g := fun z => if (!(ps.map (·.1)).any (· == z)) = true then some (fl (p ++ [.str z]) "unknown") else none)]
          · rw [filt]; rfl
          · intro z hz
            by_cases q : ((ps.map (·.1)).any fun w => w == z) = true
            · simp only [turnF, bindT, wipeR, List.set_cons_succ, List.set_cons_zero, ev_tst, ev_op, ev_var, List.getElem?_cons_succ, List.getElem?_cons_zero, bind_ok, op2_d, notIn_words, q, ofO_some, Bool.not_true, toB_bl, noX_ok, if_false, Bool.false_eq_true]
            · simp only [Bool.not_eq_true] at q
              simp only [turnF, bindT, wipeR, List.set_cons_succ, List.set_cons_zero, ev_tst, ev_op, ev_var, List.getElem?_cons_succ, List.getElem?_cons_zero, bind_ok, op2_d, notIn_words, q, ofO_some, Bool.not_false, toB_bl, noX_ok, if_true]
              simp [hpl, fl]
        unfold wrP at hlen ⊢
        simp only [keyStrs_kd, List.length_append] at hlen ⊢
        have hz : (ps.flatMap (recF (wrP n) (kd l) p)).length + (unkF ps (l.map (·.1)) p).length ≤ 16777216 := Nat.le_trans hlen (by omega)
        simp only [List.nil_append] at e5
        simp [-List.map_map, -List.length_flatMap, isi, keysD, c1, e5, c3, sortKeysD, h64, c4, hz]
      | _ => simp [isi, wrP, fl]
    | @knd _ ps h1 h2 h3 h4 h5 =>
      simp [enc]
      cases w with
      | tup0 => simp [isi, wrP, fl]
      | tup1 => simp [isi, wrP, fl]
      | @tup2 c z u w1 =>
        have e1 := lpart_ok (j + 2 * n + 3) "kind" ps z S
        rw [show j + 2 * n + 3 + 2 = j + 2 * n + 5 by omega] at e1
        cases e : ps.find? fun q => q.1 == z with
        | none =>
          rw [e] at e1
          simp [isi, wrP, fl, e1, e, isN]
        | some q =>
          rw [e] at e1
          obtain ⟨w0, r0, es, _⟩ := enc_shape q.2
          have := ih1 c q.2 u (p ++ [.str z]) (h4 q (List.mem_of_find?_eq_some e)) w1 (by rw [List.length_append]; simp; omega)
          simp only [es] at this e1
          simp [isi, wrP, e1, e, isN, es, hpl, this]
      | _ => simp [isi, wrP, fl]
end Law
namespace Law
open PySem L2 G
theorem look_none {l : List (Str × D)} {z : Str} : look l z = none ↔ z ∉ l.map (·.1) := by
  unfold look
  simp only [Option.map_eq_none_iff, List.find?_eq_none, decide_eq_true_eq, List.mem_map, not_exists, not_and]
theorem look_some {l : List (Str × D)} (hn : (l.map (·.1)).Nodup) {q : Str × D} (h : q ∈ l) : look l q.1 = some q.2 := by
  induction l with
  | nil => cases h
  | cons a r ih =>
    simp only [List.map_cons, List.nodup_cons] at hn
    rcases List.mem_cons.mp h with rfl | h
    · simp [look]
    · have ne : ¬ a.1 = q.1 := fun e => hn.1 (by rw [e]; exact List.mem_map_of_mem h)
      have := ih hn.2 h
      unfold look at this ⊢
      simp [ne]
      simpa using this
theorem nodup_le {α : Type} [DecidableEq α] : ∀ (a b : List α), a.Nodup → (∀ x ∈ a, x ∈ b) → a.length ≤ b.length
  | [], _, _, _ => Nat.zero_le _
  | x :: a, b, h, hs => by
    rw [List.nodup_cons] at h
    have hx := hs x List.mem_cons_self
    have := nodup_le a (b.erase x) h.2 fun y hy => (List.mem_erase_of_ne (fun e : y = x => h.1 (by rw [← e]; exact hy))).mpr (hs y (List.mem_cons_of_mem _ hy))
    rw [List.length_erase_of_mem hx] at this
    have : 0 < b.length := List.length_pos_of_mem hx
    rw [List.length_cons]; omega
theorem nodup_eq {α : Type} [DecidableEq α] {a b : List α} (h : a.Nodup) (hs : ∀ x ∈ a, x ∈ b) (hl : b.length ≤ a.length) : ∀ x ∈ b, x ∈ a := by
  intro x hx
  by_cases e : x ∈ a
  · exact e
  · have := nodup_le (x :: a) b (List.nodup_cons.mpr ⟨e, h⟩) fun y hy => by
      rcases List.mem_cons.mp hy with rfl | hy
      · exact hx
      · exact hs y hy
    rw [List.length_cons] at this
    omega
theorem wr_nil : ∀ (n c m : Nat) (s : Sh) (t : D) (p : List D), Gd n s → Wd c m t → (wrP n s t p = [] ↔ oneP n s t = true) := by
  intro n
  induction n with
  | zero => intro c m s t p h; cases h
  | succ n ih =>
    intro c m s t p h w
    cases h with
    | @num _ lo hi h1 h2 h3 =>
      cases t <;> simp [wrP, oneP, isWh]
      rename_i i
      by_cases e1 : i < lo
      · simp [e1]; intro; omega
      · by_cases e2 : hi < i
        · simp [e1, e2]
        · simp [e1, e2]; omega
    | tru => cases t <;> simp [wrP, oneP, isi]
    | @wrd _ ws h1 h2 h3 h4 =>
      by_cases e : oneP (n + 1) (.wrd ws) t = true
      · simp [wrP, e]
      · simp [wrP, e]
    | @txt _ q h1 =>
      cases t <;> simp [wrP, oneP]
      rename_i z
      cases letters z with
      | false => simp
      | true =>
        by_cases e : q < z.length
        · simp [e]
        · simp [e]; omega
    | @lis _ q s h1 h2 =>
      cases w with
      | @lst k xs w1 w2 =>
        by_cases e : q < xs.length
        · simp [wrP, oneP, e]; intro; omega
        · have e' : xs.length ≤ q := by omega
          simp only [wrP, oneP, if_neg e, List.nil_append, List.flatMap_eq_nil_iff, decide_eq_true e', Bool.true_and, List.all_eq_true, List.mem_range]
          constructor
          · intro hh x hx
            obtain ⟨i, hi, ex⟩ := List.mem_iff_getElem.mp hx
            have := hh i hi
            have ei : xs.getD i .non = xs[i] := by simp [hi]
            rw [ei, ih c k s _ _ h1 (w2 _ (List.getElem_mem hi)), ex] at this
            exact this
          · intro hh i hi
            have ei : xs.getD i .non = xs[i] := by simp [hi]
            rw [ei, ih c k s _ _ h1 (w2 _ (List.getElem_mem hi))]
            exact hh _ (List.getElem_mem hi)
      | _ => simp [wrP, oneP]
    | @may _ s h1 h2 =>
      cases t <;> simp [wrP, oneP] <;> exact ih c m s _ p h1 w
    | @rcd _ ps h1 h2 h3 h4 =>
      cases w with
      | @dct k l w1 w2 w3 =>
        simp only [wrP, oneP, keyStrs_kd, List.append_eq_nil_iff, List.flatMap_eq_nil_iff, kd_len, look_kd, Bool.and_eq_true, List.all_eq_true, beq_iff_eq]
        have a1 : ∀ q ∈ ps, (recF (wrP n) (kd l) p q = [] ↔ (match look l q.1 with
            | some u => oneP n q.2 u
            | none => false) = true) := fun q hq => by
          unfold recF
          simp only [look_kd]
          cases e : look l q.1 with
          | none => simp
          | some u => exact ih c k q.2 u _ (h3 q hq) (w2 _ (look_mem e))
        have a2 : unkF ps (l.map (·.1)) p = [] ↔ ∀ z ∈ l.map (·.1), z ∈ ps.map (·.1) := by
          unfold unkF
          rw [List.map_eq_nil_iff, List.filter_eq_nil_iff]
          constructor
          · intro hh z hz
            have := hh z ((sort_p _).mem_iff.mpr hz)
            simpa using this
          · intro hh z hz
            have := hh z ((sort_p _).mem_iff.mp hz)
            simpa using this
        have a3 : (∀ q ∈ ps, (match look l q.1 with
            | some u => oneP n q.2 u
            | none => false) = true) → ∀ z ∈ ps.map (·.1), z ∈ l.map (·.1) := by
          intro hh z hz
          obtain ⟨q, hq, rfl⟩ := List.mem_map.mp hz
          have := hh q hq
          cases e : look l q.1 with
          | none => rw [e] at this; cases this
          | some u => exact List.mem_map.mpr ⟨_, look_mem e, rfl⟩
        rw [a2]
        constructor
        · rintro ⟨x1, x2⟩
          have x3 : ∀ q ∈ ps, (match look l q.1 with
            | some u => oneP n q.2 u
            | none => false) = true := fun q hq => (a1 q hq).mp (x1 q hq)
          refine ⟨?_, x3⟩
          have le1 := nodup_le _ _ w3 x2
          have le2 := nodup_le _ _ h4 (a3 x3)
          simp at le1 le2
          omega
        · rintro ⟨x1, x2⟩
          refine ⟨fun q hq => (a1 q hq).mpr (x2 q hq), ?_⟩
          exact nodup_eq h4 (a3 x2) (by simp; omega)
      | _ => simp [wrP, oneP]
    | @knd _ ps h1 h2 h3 h4 h5 =>
      cases w with
      | @tup2 k z u w1 =>
        simp only [wrP, oneP]
        cases e : ps.find? fun q => q.1 == z with
        | none =>
          simp only [List.find?_eq_none, beq_iff_eq] at e
          simp only [List.cons_ne_nil, false_iff, Bool.not_eq_true, List.any_eq_false, Bool.and_eq_true, beq_iff_eq, not_and]
          intro q hq ez
          exact absurd ez.symm (e q hq)
        | some q =>
          have hq := List.mem_of_find?_eq_some e
          have ez := List.find?_some e
          simp only [beq_iff_eq] at ez
          have i1 := ih c k q.2 u (p ++ [.str z]) (h4 q hq) w1
          simp only
          rw [i1]
          simp only [List.any_eq_true, Bool.and_eq_true, beq_iff_eq]
          constructor
          · intro o; exact ⟨q, hq, ez.symm, o⟩
          · rintro ⟨r, hr, er, o⟩
            have : r = q := by
              by_cases q' : r = q
              · exact q'
              · exact absurd (er.symm.trans ez.symm) (fun e => by
                  obtain ⟨i, hi, ei⟩ := List.mem_iff_getElem.mp hr
                  obtain ⟨i', hi', ei'⟩ := List.mem_iff_getElem.mp hq
                  have := (List.getElem_inj (i := i) (j := i') (xs := ps.map (·.1)) (h₀ := by simpa using hi) (h₁ := by simpa using hi') h5).mp (by simp [ei, ei', e])
                  subst this
                  exact q' (ei.symm.trans ei'))
            rw [← this]; exact o
      | _ => simp [wrP, oneP]
end Law
namespace Law
open PySem L2 G
@[simp] theorem ev_stown {i : Nat} {ρ : Rho} {S : Sx} : sTown i ρ S = (match ρ[i]? with
  | some (some (.hot k)) => (match S[k]? with
    | some (.zs n) => if n < sizeLine then .nx ρ (S.set k (.zs (n + 1))) else .stuck
    | _ => .stuck)
  | _ => .stuck) := rfl
@[simp] theorem lenG_scr {S : Sx} {ns : List Int} : lenG S [.scr ns] = some (.int (ns.length : Nat)) := rfl
@[simp] theorem lenG_hot {n : Nat} : lenG [.zs n] [.hot 0] = some (.int (n : Nat)) := by simp [lenG]
@[simp] theorem ixA_scr {ns : List Int} {i : Int} {S : Sx} : ixA (.scr ns) (.d (.int i)) S = ofO ((atI ns i).map .int) S := rfl
theorem cell_ok (j : Nat) (ns : List Int) (k : Int) (S : Sx) : ∃ c, sem (j + 1) "_law_cell" [.scr ns, .d (.int k)] S = .ok (.int c) S := by
  rw [u_law_cell]
  unfold m_law_cell
  cases ns with
  | nil => exact ⟨0, by simp [truA]⟩
  | cons a r =>
    have h0 : (0 : Int) < ((a :: r).length : Nat) := by rw [List.length_cons]; omega
    obtain ⟨x, _, hx⟩ := atI_int' (xs := a :: r) (i := k % ((a :: r).length : Nat)) (Int.emod_nonneg _ (by omega)) (Int.emod_lt_of_pos _ h0)
    refine ⟨x, ?_⟩
    have h0' : (0 : Int) < (r.length : Int) + 1 := by omega
    have hx' : atI (a :: r) (k % ((r.length : Int) + 1)) = some x := by simpa using hx
    simp [truA, modD_int h0', hx']
theorem mix_ok (j : Nat) (ns : List Int) (k : Nat) (hk : k ≤ 2 ^ 30) (S : Sx) : ∃ r, sem (j + 2) "_law_mix" [.scr ns, .d (.int (k : Nat))] S = .ok (.int r) S := by
  rw [u_law_mix]
  unfold m_law_mix
  obtain ⟨c, hc⟩ := cell_ok j ns k S
  have m1 : mulD (.int 104729) (.int ((k : Int) + 1)) = some (.int (104729 * ((k : Int) + 1))) := mulD_int (by decide) (by omega)
  have b1 : ∀ x : Int, 0 ≤ x % 4294967291 ∧ x % 4294967291 < 4294967291 := fun x => ⟨Int.emod_nonneg _ (by decide), Int.emod_lt_of_pos _ (by decide)⟩
  have b2 : ∀ x : Int, 0 ≤ x % 4294967279 ∧ x % 4294967279 < 4294967279 := fun x => ⟨Int.emod_nonneg _ (by decide), Int.emod_lt_of_pos _ (by decide)⟩
  have p1 : ∀ x : Int, 0 ≤ x → x < 4294967291 → powD (.int x) (.int 5) = some (.int (x ^ 5)) := fun x h0 h1 => powD_int (j := 5) (by omega) (by decide)
  have d1 : ∀ x : Int, fdivD (.int x) (.int 64) = some (.int (x / 64)) := fun x => fdivD_int (by decide) (by decide)
  have m2 : ∀ x : Int, 0 ≤ x → x < 4294967279 → mulD (.int (x / 64)) (.int 69621) = some (.int (x / 64 * 69621)) := fun x h0 h1 => mulD_int (by omega) (by decide)
  simp [hc, m1, modD_int, p1 _ (b1 _).1 (b1 _).2, d1, m2 _ (b2 _).1 (b2 _).2]
/-- a result, the town grown by at most b -/
def Rn (r : Res D) (n b : Nat) (P : D → Prop) : Prop := ∃ d n', r = .ok d [.zs n'] ∧ n ≤ n' ∧ n' ≤ n + b ∧ P d
theorem draw_ok (j : Nat) (ns : List Int) (m : Int) (n : Nat) (hm : 0 < m) (hn : n < 16777216) : ∃ r : Nat, (r : Int) < m ∧ sem (j + 3) "_law_draw" [.scr ns, .hot 0, .d (.int m)] [.zs n] = .ok (.int (r : Nat)) [.zs (n + 1)] := by
  obtain ⟨r, hr⟩ := mix_ok j ns (n + 1) (by omega) [.zs (n + 1)]
  have h0 := Int.emod_nonneg (r / 8) (show m ≠ 0 by omega)
  have h1 := Int.emod_lt_of_pos (r / 8) hm
  refine ⟨(r / 8 % m).toNat, by omega, ?_⟩
  rw [u_law_draw]
  unfold m_law_draw
  have d1 : fdivD (.int r) (.int 8) = some (.int (r / 8)) := fdivD_int (by decide) (by decide)
  simp at hr
  simp [hn, hr, d1, modD_int hm]
  omega
theorem pick_lst (j : Nat) (ns : List Int) (xs : List D) (n : Nat) (hx : xs ≠ []) (hn : n < 16777216) : ∃ d ∈ xs, sem (j + 4) "_law_pick" [.scr ns, .hot 0, .d (.lst xs)] [.zs n] = .ok d [.zs (n + 1)] := by
  have hl : 0 < xs.length := List.length_pos_iff.mpr hx
  obtain ⟨r, h1, h2⟩ := draw_ok j ns (xs.length : Nat) n (by omega) hn
  have hr : r < xs.length := by omega
  refine ⟨xs[r], List.getElem_mem hr, ?_⟩
  rw [u_law_pick]
  unfold m_law_pick
  simp [h2, G.atI_nat hr]
theorem pick_tup (j : Nat) (ns : List Int) (xs : List D) (n : Nat) (hx : xs ≠ []) (hn : n < 16777216) : ∃ d ∈ xs, sem (j + 4) "_law_pick" [.scr ns, .hot 0, .d (.tup xs)] [.zs n] = .ok d [.zs (n + 1)] := by
  have hl : 0 < xs.length := List.length_pos_iff.mpr hx
  obtain ⟨r, h1, h2⟩ := draw_ok j ns (xs.length : Nat) n (by omega) hn
  have hr : r < xs.length := by omega
  refine ⟨xs[r], List.getElem_mem hr, ?_⟩
  rw [u_law_pick]
  unfold m_law_pick
  simp [h2, G.atI_nat hr]
theorem sign_at {z : Str} {r : Nat} (h : r < z.cps.size) : ixD (.str z) (.int (r : Nat)) = some (.str ⟨#[z.cps[r]]⟩) := by
  show (atI z.cps.toList (r : Nat)).map _ = _
  rw [G.atI_nat (by simpa using h)]
  simp
theorem pick_str (j : Nat) (ns : List Int) (z : Str) (n : Nat) (hx : 0 < z.cps.size) (hn : n < 16777216) : ∃ c ∈ z.cps.toList, sem (j + 4) "_law_pick" [.scr ns, .hot 0, .d (.str z)] [.zs n] = .ok (.str ⟨#[c]⟩) [.zs (n + 1)] := by
  obtain ⟨r, h1, h2⟩ := draw_ok j ns (z.cps.size : Nat) n (by omega) hn
  have hr : r < z.cps.size := by omega
  refine ⟨z.cps[r], by simp, ?_⟩
  rw [u_law_pick]
  unfold m_law_pick
  have hl : z.length = z.cps.size := rfl
  simp [hl, h2, sign_at hr]
/-- a comprehension whose turns each draw -/
theorem comp_rn {t : Tgt} {W : List Nat} {ft : Ft} {fe : Fe} {ρ : Rho} {b : Nat} {P : D → D → Prop} : ∀ {ds : List D} {n : Nat}, (∀ d ∈ ds, ∀ n', n ≤ n' → n' ≤ n + ds.length * b → ∃ y n2, turnF t W ft fe d ρ [.zs n'] = .ok (some y) [.zs n2] ∧ n' ≤ n2 ∧ n2 ≤ n' + b ∧ P d y) →
    ∃ ys n', compF t W ft fe ρ ds [.zs n] = .ok ys [.zs n'] ∧ n ≤ n' ∧ n' ≤ n + ds.length * b ∧ Paired P ds ys
  | [], n, _ => ⟨[], n, rfl, Nat.le_refl _, by simp, .nil⟩
  | d :: ds, n, h => by
    have e : (d :: ds).length * b = ds.length * b + b := by rw [List.length_cons, Nat.succ_mul]
    obtain ⟨y, n2, h1, h2, h3, h4⟩ := h d List.mem_cons_self n (Nat.le_refl _) (by omega)
    obtain ⟨ys, n3, h5, h6, h7, h8⟩ := comp_rn (ds := ds) (n := n2) (fun x hx n' a1 a2 => h x (List.mem_cons_of_mem _ hx) n' (by omega) (by omega))
    refine ⟨y :: ys, n3, ?_, by omega, by omega, .cons h4 h8⟩
    rw [compF_cons, h1, bind_ok, h5, bind_ok]
    rfl
theorem paired_all {α β : Type} {P : α → β → Prop} {Q : β → Prop} (h : ∀ a b, P a b → Q b) : ∀ {xs : List α} {ys : List β}, Paired P xs ys → ∀ y ∈ ys, Q y
  | _, _, .nil, y, hy => by cases hy
  | _, _, .cons p r, y, hy => by
    rcases List.mem_cons.mp hy with rfl | hy
    · exact h _ _ p
    · exact paired_all h r y hy
theorem strsOf_signs : ∀ {ys : List D} (Q : Nat → Prop), (∀ y ∈ ys, ∃ c, y = .str ⟨#[c]⟩ ∧ Q c) → ∃ cs : List Nat, ys = cs.map (fun c => .str ⟨#[c]⟩) ∧ ∀ c ∈ cs, Q c
  | [], Q, _ => ⟨[], rfl, by simp⟩
  | y :: ys, Q, h => by
    obtain ⟨c, rfl, hc⟩ := h y List.mem_cons_self
    obtain ⟨cs, rfl, hcs⟩ := strsOf_signs Q fun z hz => h z (List.mem_cons_of_mem _ hz)
    refine ⟨c :: cs, rfl, fun x hx => ?_⟩
    rcases List.mem_cons.mp hx with rfl | hx
    · exact hc
    · exact hcs x hx
theorem join_signs (cs : List Nat) : Txt.join ("" : Str) (cs.map fun c => (⟨#[c]⟩ : Str)) = ⟨cs.toArray⟩ := by
  show Builtin.Str.glued ("" : Str) _ = _
  rw [StrLaws.glued_eq_join]
  induction cs with
  | nil => rfl
  | cons c r ih =>
    cases r with
    | nil => rfl
    | cons d r =>
      show (⟨#[c]⟩ : Str) ++ ("" : Str) ++ Str.join ("" : Str) (((d :: r).map fun c => (⟨#[c]⟩ : Str))) = _
      rw [ih]
      have e : ("" : Str) = ⟨#[]⟩ := by decide
      rw [e]
      show (⟨(#[c] ++ #[]) ++ (d :: r).toArray⟩ : Str) = _
      simp
theorem sum1 : ∀ cs : List Nat, ((cs.map fun c => (⟨#[c]⟩ : Str)).map (·.length)).sum = cs.length
  | [] => rfl
  | c :: r => by
    have := sum1 r
    simp only [List.map_cons, List.sum_cons, List.length_cons, this]
    show 1 + r.length = _
    omega
theorem joinD_signs (cs : List Nat) (h : cs.length ≤ 1000) : joinD (.str "") (.lst (cs.map fun c => .str ⟨#[c]⟩)) = some (.str ⟨cs.toArray⟩) := by
  have e : cs.map (fun c => D.str ⟨#[c]⟩) = (cs.map fun c => (⟨#[c]⟩ : Str)).map .str := by simp
  rw [e]
  have e2 := sum1 cs
  have e3 : ("" : Str).length = 0 := by decide
  simp only [joinD, strsOf_map, Option.bind_some, e2, e3, join_signs, List.length_map, Nat.mul_zero, Nat.add_zero]
  have e4 : (⟨cs.toArray⟩ : Str).length = cs.length := by show cs.toArray.size = _; simp
  rw [e4, sl_line, if_pos ⟨by omega, by omega⟩]
/-! ### words -/
theorem okW_fix : ∀ w ∈ (["a", "b", "c", "ab", "name", "size"] : List Str), okW w := by
  intro w hw
  unfold okW
  simp only [List.mem_cons, List.not_mem_nil, or_false] at hw
  rcases hw with rfl | rfl | rfl | rfl | rfl | rfl <;> decide
theorem lword_ok (j : Nat) (ns : List Int) (n : Nat) (hn : n + 10 < 16777216) : Rn (sem (j + 5) "_law_word" [.scr ns, .hot 0] [.zs n]) n 10 (fun d => ∃ z, d = .str z ∧ okW z) := by
  rw [u_law_word]
  unfold m_law_word
  obtain ⟨r, h1, h2⟩ := draw_ok (j + 1) ns 6 n (by decide) (by omega)
  rw [show j + 1 + 3 = j + 4 by omega] at h2
  by_cases e : 0 < r
  · obtain ⟨d, hd, h3⟩ := pick_lst j ns [.str "a", .str "b", .str "c", .str "ab", .str "name", .str "size"] (n + 1) (by simp) (by omega)
    obtain ⟨w, hw, rfl⟩ : ∃ w ∈ (["a", "b", "c", "ab", "name", "size"] : List Str), d = .str w := by
      simp only [List.mem_cons, List.not_mem_nil, or_false] at hd
      rcases hd with rfl | rfl | rfl | rfl | rfl | rfl
      · exact ⟨_, by simp, rfl⟩
      · exact ⟨_, by simp, rfl⟩
      · exact ⟨_, by simp, rfl⟩
      · exact ⟨_, by simp, rfl⟩
      · exact ⟨_, by simp, rfl⟩
      · exact ⟨_, by simp, rfl⟩
    refine ⟨.str w, n + 1 + 1, ?_, by omega, by omega, w, rfl, okW_fix w hw⟩
    simp [h2, e, h3]
  · obtain ⟨q, h3, h4⟩ := draw_ok (j + 1) ns 8 (n + 1) (by decide) (by omega)
    rw [show j + 1 + 3 = j + 4 by omega] at h4
    obtain ⟨ys, n', c1, c2, c3, c4⟩ := comp_rn (t := .n 3) (W := [3]) (ft := tYesF) (fe := eIx (eVar 2) (eOwn (sem (j + 4) "_law_draw") (aCons (eVar 0) (aCons (eVar 1) (aCons (eC (.int 26)) aNil)))))
      (ρ := [some (.scr ns), some (.hot 0), some (.d (.str "abcdefghijklmnopqrstuvwxyz")), none]) (b := 1) (P := fun _ y => ∃ c, y = .str ⟨#[c]⟩ ∧ c ∈ ("abcdefghijklmnopqrstuvwxyz" : Str).cps.toList) (ds := (List.range (q + 1)).map fun i => .int (i : Nat)) (n := n + 2) (fun d hd n' a1 a2 => by
        obtain ⟨i, _, rfl⟩ := List.mem_map.mp hd
        simp at a2
        obtain ⟨r2, b1, b2⟩ := draw_ok (j + 1) ns 26 n' (by decide) (by omega)
        rw [show j + 1 + 3 = j + 4 by omega] at b2
        have hz : ("abcdefghijklmnopqrstuvwxyz" : Str).cps.size = 26 := by decide
        have hr : r2 < ("abcdefghijklmnopqrstuvwxyz" : Str).cps.size := by omega
        refine ⟨.str ⟨#[("abcdefghijklmnopqrstuvwxyz" : Str).cps[r2]]⟩, n' + 1, ?_, by omega, by omega, _, rfl, by simp⟩
        simp [turnF, bindT, wipeR, b2, sign_at hr])
    obtain ⟨cs, rfl, hcs⟩ := strsOf_signs (fun c => c ∈ ("abcdefghijklmnopqrstuvwxyz" : Str).cps.toList) (paired_all (Q := fun (y : D) => ∃ c, y = .str ⟨#[c]⟩ ∧ c ∈ ("abcdefghijklmnopqrstuvwxyz" : Str).cps.toList) (fun _ _ h => h) c4)
    have hlen := Paired.length c4
    simp at hlen c3
    have hq : q + 1 ≤ 8 := by omega
    refine ⟨.str ⟨cs.toArray⟩, n', ?_, by omega, by omega, _, rfl, ?_⟩
    · have e1 : (1 : Int) + (q : Int) ≤ 16777216 := by omega
      have e2 : ((1 : Int) + (q : Int)).toNat = q + 1 := by omega
      have e3 : -1073741824 ≤ (1 : Int) + (q : Int) := by omega
      have e4 := joinD_signs cs (by omega)
      simp [h2, e, h4, e1, e2, e3, c1, e4]
    · refine ⟨?_, ?_, ?_⟩
      · show 1 ≤ cs.toArray.size; simp; omega
      · show cs.toArray.size ≤ 8; simp; omega
      · intro c hc; exact hcs c (by simpa using hc)
end Law
namespace Law
open PySem L2 G
/-- a loop whose turns each draw; Inv tells of the items gone through -/
theorem for_rn {t : Tgt} {f : Fs} {b T : Nat} {Inv : List D → Rho → Prop} : ∀ {ds dn : List D} {ρ : Rho} {n : Nat}, dn.length + ds.length = T → Inv dn ρ →
    (∀ d ∈ ds, ∀ dn ρ n', dn.length < T → n ≤ n' → n' ≤ n + ds.length * b → Inv dn ρ → ∃ ρ1 ρ2 n2, bindT t d ρ = some ρ1 ∧ f ρ1 [.zs n'] = .nx ρ2 [.zs n2] ∧ n' ≤ n2 ∧ n2 ≤ n' + b ∧ Inv (dn ++ [d]) ρ2) →
    ∃ ρ' n', forF t f ds ρ [.zs n] = .nx ρ' [.zs n'] ∧ n ≤ n' ∧ n' ≤ n + ds.length * b ∧ Inv (dn ++ ds) ρ'
  | [], dn, ρ, n, _, h, _ => ⟨ρ, n, rfl, Nat.le_refl _, by simp, by simpa using h⟩
  | d :: ds, dn, ρ, n, hT, h, st => by
    have e : (d :: ds).length * b = ds.length * b + b := by rw [List.length_cons, Nat.succ_mul]
    rw [List.length_cons] at hT
    obtain ⟨ρ1, ρ2, n2, h1, h2, h3, h4, h5⟩ := st d List.mem_cons_self dn ρ n (by omega) (Nat.le_refl _) (by omega) h
    obtain ⟨ρ', n', g1, g2, g3, g4⟩ := for_rn (ds := ds) (dn := dn ++ [d]) (ρ := ρ2) (n := n2) (by simp; omega) h5 (fun x hx dn ρ n' a0 a1 a2 => st x (List.mem_cons_of_mem _ hx) dn ρ n' a0 (by omega) (by omega))
    refine ⟨ρ', n', ?_, by omega, by omega, by simpa using g4⟩
    simp only [forF, h1, h2, g1]
def putS (l : List (Str × D)) (z : Str) (u : D) : List (Str × D) := if (l.any fun q => decide (q.1 = z)) = true then l.map (fun q => if q.1 = z then (q.1, u) else q) else l ++ [(z, u)]
theorem putD_kd (l : List (Str × D)) (z : Str) (u : D) : putD (kd l) (.inr z) u = kd (putS l z u) := by
  unfold putD putS
  have e : ((kd l).any fun kv => decide (kv.1 = .inr z)) = l.any fun q => decide (q.1 = z) := by
    unfold kd; rw [List.any_map]; congr 1; funext q; simp
  rw [e]
  split
  · unfold kd
    rw [List.map_map, List.map_map]
    refine List.map_congr_left fun q _ => ?_
    by_cases e : q.1 = z <;> simp [e]
  · simp [kd]
theorem putS_keys (l : List (Str × D)) (z : Str) (u : D) : (putS l z u).map (·.1) = if z ∈ l.map (·.1) then l.map (·.1) else l.map (·.1) ++ [z] := by
  unfold putS
  have e : (l.any fun q => decide (q.1 = z)) = true ↔ z ∈ l.map (·.1) := by simp
  by_cases h : z ∈ l.map (·.1)
  · rw [if_pos (e.mpr h), if_pos h, List.map_map]
    refine List.map_congr_left fun q _ => ?_
    by_cases e : q.1 = z <;> simp [e]
  · rw [if_neg (fun q => h (e.mp q)), if_neg h]; simp
theorem putS_nodup {l : List (Str × D)} {z : Str} {u : D} (h : (l.map (·.1)).Nodup) : ((putS l z u).map (·.1)).Nodup := by
  rw [putS_keys]
  split
  · exact h
  · rename_i hz
    rw [List.nodup_append]
    exact ⟨h, by simp, fun a ha b hb e => hz (by simp at hb; rw [← hb, ← e]; exact ha)⟩
theorem putS_mem {l : List (Str × D)} {z : Str} {u : D} {q : Str × D} (h : q ∈ putS l z u) : q ∈ l ∨ q = (z, u) := by
  unfold putS at h
  split at h
  · obtain ⟨r, hr, e⟩ := List.mem_map.mp h
    split at e
    · rename_i ez; rw [← e, ez]; exact .inr rfl
    · rw [← e]; exact .inl hr
  · rcases List.mem_append.mp h with h | h
    · exact .inl h
    · simp at h; exact .inr h
theorem putS_len (l : List (Str × D)) (z : Str) (u : D) : (putS l z u).length ≤ l.length + 1 ∧ l.length ≤ (putS l z u).length ∧ 1 ≤ (putS l z u).length := by
  unfold putS
  split
  · rename_i h
    have : l ≠ [] := fun e => by rw [e] at h; cases h
    have := List.length_pos_iff.mpr this
    simp; omega
  · simp
@[simp] theorem keysD_kd (l : List (Str × D)) : keysD (.dct (kd l)) = some (.lst ((l.map (·.1)).map .str)) := by
  simp [keysD, kd, keyVal]
theorem cut4 (xs : List D) : cutD xs none (some 4) = xs.take 4 := by
  unfold cutD
  have e1 : HT.sIx xs.length 0 none = 0 := rfl
  rw [e1]
  have e2 : HT.sIx xs.length xs.length (some 4) = min 4 xs.length := HT.sIx_nat _ _ 4
  rw [e2]
  simp
theorem lwords_ok (j : Nat) (ns : List Int) (least n : Nat) (hl : least ≤ 1) (hn : n + 70 < 16777216) : Rn (sem (j + 6) "_law_words" [.scr ns, .hot 0, .d (.int (least : Nat))] [.zs n]) n 60 (fun d => ∃ ws : List Str, d = .lst (ws.map .str) ∧ least ≤ ws.length ∧ ws.length ≤ 4 ∧ (∀ w ∈ ws, okW w) ∧ ws.Nodup) := by
  rw [u_law_words]
  unfold m_law_words
  obtain ⟨r, h1, h2⟩ := draw_ok (j + 2) ns 5 n (by decide) (by omega)
  rw [show j + 2 + 3 = j + 5 by omega] at h2
  obtain ⟨ρ', n', g1, g2, g3, l, v, rfl, g5, g6, g7, g8⟩ := for_rn (t := .n 4) (f := sPut 3 (eOwn (sem (j + 5) "_law_word") (aCons (eVar 0) (aCons (eVar 1) aNil))) (eC (.bl true))) (b := 10) (T := least + r)
    (Inv := fun dn ρ => ∃ (l : List (Str × D)) (v : Option A), ρ = [some (.scr ns), some (.hot 0), some (.d (.int (least : Nat))), some (.d (.dct (kd l))), v] ∧ (l.map (·.1)).Nodup ∧ (∀ q ∈ l, okW q.1) ∧ l.length ≤ dn.length ∧ (1 ≤ dn.length → 1 ≤ l.length))
    (ds := (List.range (least + r)).map fun i => .int (i : Nat)) (dn := []) (ρ := [some (.scr ns), some (.hot 0), some (.d (.int (least : Nat))), some (.d (.dct (kd []))), none]) (n := n + 1) (by simp)
    ⟨[], none, rfl, by simp, by simp, by simp, by simp⟩ (by
      rintro d hd dn ρ n' a0 a1 a2 ⟨l, v, rfl, i1, i2, i3, i4⟩
      simp at a2
      obtain ⟨dd, n2, w1, w2, w3, z, rfl, w4⟩ := lword_ok j ns n' (by omega)
      refine ⟨_, [some (.scr ns), some (.hot 0), some (.d (.int (least : Nat))), some (.d (.dct (kd (putS l z (.bl true))))), some (.d d)], n2, rfl, ?_, w2, w3, putS l z (.bl true), some (.d d), rfl, putS_nodup i1, ?_, ?_, ?_⟩
      · have hlen : l.length < 16777216 := by omega
        simp [w1, keyD, hlen, putD_kd]
      · intro q hq
        rcases putS_mem hq with h | h
        · exact i2 q h
        · rw [h]; exact w4
      · have := (putS_len l z (.bl true)).1
        simp; omega
      · intro _; exact (putS_len l z (.bl true)).2.2)
  simp at g3 g7 g8
  refine ⟨.lst (((l.map (·.1)).take 4).map .str), n', ?_, by omega, by omega, (l.map (·.1)).take 4, rfl, ?_, ?_, ?_, ?_⟩
  · have e1 : (least : Int) + (r : Int) ≤ 16777216 := by omega
    have e2 : ((least : Int) + (r : Int)).toNat = least + r := by omega
    have e3 : -1073741824 ≤ (least : Int) + (r : Int) := by omega
    have e4 : kd [] = [] := rfl
    rw [e4] at g1
    simp [h2, e1, e2, e3, g1, slD, cut4, List.map_take]
  · rw [List.length_take, List.length_map]
    by_cases e : least = 0
    · omega
    · have := g8 (by omega); omega
  · rw [List.length_take]; omega
  · intro w hw
    obtain ⟨q, hq, rfl⟩ := List.mem_map.mp (List.mem_of_mem_take hw)
    exact g6 q hq
  · exact g5.sublist (List.take_sublist _ _)
end Law
namespace Law
open PySem L2 G
def bS : Nat → Nat
  | 0 => 0
  | d + 1 => 100 + 4 * bS d
theorem parts_of {n : Nat} : ∀ {ws : List Str} {ys : List D}, Paired (fun (d y : D) => ∀ w, d = .str w → ∃ s, y = .tup [.str w, enc s] ∧ Gd n s) (ws.map .str) ys → ∃ ps : List (Str × Sh), ys = encs ps ∧ ps.map (·.1) = ws ∧ ∀ p ∈ ps, Gd n p.2
  | [], _, .nil => ⟨[], rfl, rfl, by simp⟩
  | w :: ws, _, .cons h r => by
    obtain ⟨s, rfl, hs⟩ := h w rfl
    obtain ⟨ps, rfl, e, hp⟩ := parts_of r
    refine ⟨(w, s) :: ps, by simp [encs], by simp [e], fun p hp' => ?_⟩
    rcases List.mem_cons.mp hp' with rfl | hp'
    · exact hs
    · exact hp p hp'
theorem Gd.up : ∀ {n : Nat} {s : Sh}, Gd n s → Gd (n + 1) s
  | _, _, .num a b c => .num a b c
  | _, _, .tru => .tru
  | _, _, .wrd a b c d => .wrd a b c d
  | _, _, .txt a => .txt a
  | _, _, .lis a b => .lis a.up b
  | _, _, .may a b => .may a.up b
  | _, _, .rcd a b c d => .rcd a b (fun p hp => (c p hp).up) d
  | _, _, .knd a b c d e => .knd a b c (fun p hp => (d p hp).up) e
theorem lshape_ok : ∀ (d j : Nat) (ns : List Int) (n : Nat), 1 ≤ d → d ≤ 4 → n + 5 * bS d + 200 < 16777216 → Rn (sem (j + d + 7) "_law_shape" [.scr ns, .hot 0, .d (.int (d : Nat)), .d (.bl true)] [.zs n]) n (bS d) (fun x => ∃ s, x = enc s ∧ Gd d s) := by
  intro d
  induction d with
  | zero => intro j ns n h; omega
  | succ d ih =>
    intro j ns n _ hd hn
    have hb : bS (d + 1) = 100 + 4 * bS d := rfl
    rw [show j + (d + 1) + 7 = (j + d + 7) + 1 by omega, u_law_shape]
    unfold m_law_shape
    have e0 : (1 : Int) < ((d + 1 : Nat) : Int) ↔ 1 ≤ d := by omega
    obtain ⟨r, h1, h2⟩ := draw_ok (j + d + 4) ns (if 1 ≤ d then 9 else 4) n (by split <;> decide) (by omega)
    rw [show j + d + 4 + 3 = j + d + 7 by omega] at h2
    have sub : ∀ n, n + 5 * bS d + 200 < 16777216 → 1 ≤ d → Rn (sem (j + d + 7) "_law_shape" [.scr ns, .hot 0, .d (.int (d : Nat)), .d (.bl true)] [.zs n]) n (bS d) (fun x => ∃ s, x = enc s ∧ Gd d s) := fun n h hd1 => ih j ns n hd1 (by omega) h
    have hs : ∀ x : Int, x = ((d + 1 : Nat) : Int) - 1 → x = (d : Nat) := fun x h => by omega
    have es : (((d : Int) + 1) - 1) = (d : Int) := by omega
    have pts : ∀ (ws : List Str) (n' : Nat), ws.length ≤ 4 → n' + 9 * bS d + 200 < 16777216 → 1 ≤ d → ∀ sort : Int, ∃ (ps : List (Str × Sh)) (n2 : Nat), compF (.n 9) [9] tYesF (eTup (aCons (eVar 9) (aCons (eOwn (sem (j + d + 7) "_law_shape") (aCons (eVar 0) (aCons (eVar 1) (aCons (eOp subD (eVar 2) (eC (.int 1))) (aCons (eVar 3) aNil))))) aNil)))
        [some (.scr ns), some (.hot 0), some (.d (.int ((d : Int) + 1))), some (.d (.bl true)), some (.d (.int sort)), some (.d (.lst (ws.map .str))), none, none, none, none] (ws.map .str) [.zs n'] = .ok (encs ps) [.zs n2] ∧ n' ≤ n2 ∧ n2 ≤ n' + 4 * bS d ∧ ps.map (·.1) = ws ∧ ∀ p ∈ ps, Gd d p.2 := by
      intro ws n' hws hn' hd1 sort
      obtain ⟨ys, n2, c1, c2, c3, c4⟩ := comp_rn (t := .n 9) (W := [9]) (ft := tYesF) (fe := eTup (aCons (eVar 9) (aCons (eOwn (sem (j + d + 7) "_law_shape") (aCons (eVar 0) (aCons (eVar 1) (aCons (eOp subD (eVar 2) (eC (.int 1))) (aCons (eVar 3) aNil))))) aNil)))
        (ρ := [some (.scr ns), some (.hot 0), some (.d (.int ((d : Int) + 1))), some (.d (.bl true)), some (.d (.int sort)), some (.d (.lst (ws.map .str))), none, none, none, none]) (b := bS d) (P := fun (d' y : D) => ∀ w, d' = .str w → ∃ s, y = .tup [.str w, enc s] ∧ Gd d s) (ds := ws.map .str) (n := n') (fun x hx n3 a1 a2 => by
          obtain ⟨w, hw, rfl⟩ := List.mem_map.mp hx
          rw [List.length_map] at a2
          have : ws.length * bS d ≤ 4 * bS d := Nat.mul_le_mul_right _ hws
          have hbd : bS d ≤ bS d := Nat.le_refl _
          obtain ⟨y, n4, s1, s2, s3, s, rfl, s4⟩ := sub n3 (by omega) hd1
          refine ⟨.tup [.str w, enc s], n4, ?_, s2, s3, fun w' e => ?_⟩
          · simp [turnF, bindT, wipeR, s1, es]
          · cases e; exact ⟨s, rfl, s4⟩)
      obtain ⟨ps, rfl, e1, e2⟩ := parts_of c4
      refine ⟨ps, n2, c1, c2, ?_, e1, e2⟩
      rw [List.length_map] at c3
      have : ws.length * bS d ≤ 4 * bS d := Nat.mul_le_mul_right _ hws
      omega
    have cases9 : r = 0 ∨ r = 1 ∨ r = 2 ∨ r = 3 ∨ (1 ≤ d ∧ (r = 4 ∨ r = 5 ∨ r = 6 ∨ r = 7 ∨ r = 8)) := by
      split at h1 <;> omega
    have hlt : ((1 : Int) < (d : Int) + 1) ↔ 1 ≤ d := by omega
    have h2' : sem (j + d + 7) "_law_draw" [.scr ns, .hot 0, .d (.int (if 1 ≤ d then 9 else 4))] [.zs n] = .ok (.int (r : Nat)) [.zs (n + 1)] := h2
    rcases cases9 with rfl | rfl | rfl | rfl | ⟨hd1, rfl | rfl | rfl | rfl | rfl⟩
    · obtain ⟨x, hx, p1⟩ := pick_lst (j + d + 3) ns [.int 0, .int 1, .int (-2), .int (-1000000)] (n + 1) (by simp) (by omega)
      obtain ⟨y, hy, p2⟩ := pick_lst (j + d + 3) ns [.int 0, .int 1, .int 2, .int 1000] (n + 1 + 1) (by simp) (by omega)
      rw [show j + d + 3 + 4 = j + d + 7 by omega] at p1 p2
      obtain ⟨lo, rfl, hlo⟩ : ∃ lo, x = .int lo ∧ -1000000 ≤ lo ∧ lo ≤ 1 := by
        simp only [List.mem_cons, List.not_mem_nil, or_false] at hx
        rcases hx with rfl | rfl | rfl | rfl <;> exact ⟨_, rfl, by decide, by decide⟩
      obtain ⟨w, rfl, hw⟩ : ∃ w, y = .int w ∧ 0 ≤ w ∧ w ≤ 1000 := by
        simp only [List.mem_cons, List.not_mem_nil, or_false] at hy
        rcases hy with rfl | rfl | rfl | rfl <;> exact ⟨_, rfl, by decide, by decide⟩
      refine ⟨enc (.num lo (lo + w)), n + 1 + 1 + 1, ?_, by omega, by omega, _, rfl, .num (by omega) (by omega) (by omega)⟩
      by_cases hd1 : 1 ≤ d
      · simp [hd1] at h2'
        simp [hlt, hd1, h2', truA, p1, p2, enc]
      · simp [hd1] at h2'
        simp [hlt, hd1, h2', truA, p1, p2, enc]
    · refine ⟨enc .tru, n + 1, ?_, by omega, by omega, _, rfl, .tru⟩
      by_cases hd1 : 1 ≤ d
      · simp [hd1] at h2'
        simp [hlt, hd1, h2', enc]
      · simp [hd1] at h2'
        simp [hlt, hd1, h2', enc]
    · obtain ⟨x, n', w1, w2, w3, ws, rfl, w4, w5, w6, w7⟩ := lwords_ok (j + d + 1) ns 1 (n + 1) (by decide) (by omega)
      rw [show j + d + 1 + 6 = j + d + 7 by omega] at w1
      refine ⟨enc (.wrd ws), n', ?_, by omega, by omega, _, rfl, .wrd w4 w5 w6 w7⟩
      simp at w1
      by_cases hd1 : 1 ≤ d
      · simp [hd1] at h2'
        simp [hlt, hd1, h2', enc, w1, tupleG]
      · simp [hd1] at h2'
        simp [hlt, hd1, h2', enc, w1, tupleG]
    · obtain ⟨q, q1, q2⟩ := draw_ok (j + d + 4) ns 5 (n + 1) (by decide) (by omega)
      rw [show j + d + 4 + 3 = j + d + 7 by omega] at q2
      refine ⟨enc (.txt q), n + 1 + 1, ?_, by omega, by omega, _, rfl, .txt (by omega)⟩
      by_cases hd1 : 1 ≤ d
      · simp [hd1] at h2'
        simp [hlt, hd1, h2', enc, q2, truA]
      · simp [hd1] at h2'
        simp [hlt, hd1, h2', enc, q2, truA]
    · simp [hd1] at h2'
      obtain ⟨x, n', s1, s2, s3, s, rfl, s4⟩ := sub (n + 1) (by omega) hd1
      obtain ⟨q, q1, q2⟩ := draw_ok (j + d + 4) ns 5 n' (by decide) (by omega)
      rw [show j + d + 4 + 3 = j + d + 7 by omega] at q2
      refine ⟨enc (.lis s q), n' + 1, ?_, by omega, by omega, _, rfl, .lis s4 (by omega)⟩
      simp [hlt, hd1, h2', enc, s1, q2, truA, es]
    · simp [hd1] at h2'
      obtain ⟨x, n', s1, s2, s3, s, rfl, s4⟩ := sub (n + 1) (by omega) hd1
      obtain ⟨w, r0, es0, hw, hm⟩ := enc_shape s
      cases em : isMay s with
      | true =>
        have ew := hm em
        subst ew
        refine ⟨enc s, n', ?_, by omega, by omega, s, rfl, ?_⟩
        · rw [es0] at s1 ⊢
          simp [hlt, hd1, h2', s1, es]
        · exact s4.up
      | false =>
        refine ⟨enc (.may s), n', ?_, by omega, by omega, _, rfl, .may s4 em⟩
        have := hw em
        rw [es0] at s1
        simp [hlt, hd1, h2', s1, es, enc, es0, this]
    all_goals
      simp [hd1] at h2'
    · obtain ⟨x, n', w1, w2, w3, ws, rfl, w4, w5, w6, w7⟩ := lwords_ok (j + d + 1) ns 0 (n + 1) (by decide) (by omega)
      rw [show j + d + 1 + 6 = j + d + 7 by omega] at w1
      obtain ⟨ps, n2, c1, c2, c3, c4, c5⟩ := pts ws n' w5 (by omega) hd1 6
      refine ⟨enc (.rcd ps), n2, ?_, by omega, by omega, _, rfl, .rcd (by rw [← List.length_map (f := (·.1)), c4]; exact w5) (fun p hp => w6 _ (by rw [← c4]; exact List.mem_map_of_mem hp)) c5 (by rw [c4]; exact w7)⟩
      simp at w1 c1
      simp [hlt, hd1, h2', intG, w1, c1, es, tupleG, enc]
    · obtain ⟨x, n', w1, w2, w3, ws, rfl, w4, w5, w6, w7⟩ := lwords_ok (j + d + 1) ns 0 (n + 1) (by decide) (by omega)
      rw [show j + d + 1 + 6 = j + d + 7 by omega] at w1
      obtain ⟨ps, n2, c1, c2, c3, c4, c5⟩ := pts ws n' w5 (by omega) hd1 7
      refine ⟨enc (.rcd ps), n2, ?_, by omega, by omega, _, rfl, .rcd (by rw [← List.length_map (f := (·.1)), c4]; exact w5) (fun p hp => w6 _ (by rw [← c4]; exact List.mem_map_of_mem hp)) c5 (by rw [c4]; exact w7)⟩
      simp at w1 c1
      simp [hlt, hd1, h2', intG, w1, c1, es, tupleG, enc]
    · obtain ⟨x, n', w1, w2, w3, ws, rfl, w4, w5, w6, w7⟩ := lwords_ok (j + d + 1) ns 1 (n + 1) (by decide) (by omega)
      rw [show j + d + 1 + 6 = j + d + 7 by omega] at w1
      obtain ⟨ps, n2, c1, c2, c3, c4, c5⟩ := pts ws n' w5 (by omega) hd1 8
      refine ⟨enc (.knd ps), n2, ?_, by omega, by omega, _, rfl, .knd (by rw [← List.length_map (f := (·.1)), c4]; exact w4) (by rw [← List.length_map (f := (·.1)), c4]; exact w5) (fun p hp => w6 _ (by rw [← c4]; exact List.mem_map_of_mem hp)) c5 (by rw [c4]; exact w7)⟩
      simp at w1 c1
      simp [hlt, hd1, h2', intG, w1, c1, es, tupleG, enc]
end Law
namespace Law
open PySem L2 G
def bT : Nat → Nat
  | 0 => 0
  | d + 1 => 10 + 4 * bT d
theorem Wd.mono {c c' : Nat} (hc : c ≤ c') : ∀ {n n' : Nat} {t : D}, Wd c n t → n ≤ n' → Wd c' n' t
  | _, _, _, .non, _ => .non
  | _, _, _, .bl, _ => .bl
  | _, _, _, .int, _ => .int
  | _, _, _, .str, _ => .str
  | _, n' + 1, _, .lst a b, h => .lst (by omega) fun x hx => (b x hx).mono hc (by omega)
  | _, n' + 1, _, .tup0, h => .tup0
  | _, n' + 1, _, .tup1, h => .tup1
  | _, n' + 1, _, .tup2 a, h => .tup2 (a.mono hc (by omega))
  | _, n' + 1, _, .dct a b d, h => .dct (by omega) (fun x hx => (b x hx).mono hc (by omega)) d
theorem putS_new {l : List (Str × D)} {z : Str} {u : D} (h : z ∉ l.map (·.1)) : putS l z u = l ++ [(z, u)] := by
  unfold putS
  rw [if_neg]
  intro e
  apply h
  simpa using e
theorem thing_loop {k n b : Nat} {ns : List Int} {a2 a3 a5 a6 a9 : Option A} : ∀ {ps : List (Str × Sh)} {l : List (Str × D)} {N : Nat} {v7 v8 : Option A}, (∀ p ∈ ps, ∀ N, N + 5 * b + 20 < 16777216 → Rn (sem k "_law_thing" [.scr ns, .hot 0, .d (enc p.2)] [.zs N]) N b (fun t => oneP n p.2 t = true ∧ Wd 4 n t)) →
    (l.map (·.1) ++ ps.map (·.1)).Nodup → l.length + ps.length ≤ 100 → N + ps.length * b + 5 * b + 20 < 16777216 →
    ∃ l' N' v7' v8', forF (.t [7, 8]) (sPut 4 (eVar 7) (eOwn (sem k "_law_thing") (aCons (eVar 0) (aCons (eVar 1) (aCons (eVar 8) aNil))))) (ps.map encp) [some (.scr ns), some (.hot 0), a2, a3, some (.d (.dct (kd l))), a5, a6, v7, v8, a9] [.zs N] =
      .nx [some (.scr ns), some (.hot 0), a2, a3, some (.d (.dct (kd (l ++ l')))), a5, a6, v7', v8', a9] [.zs N'] ∧ N ≤ N' ∧ N' ≤ N + ps.length * b ∧ Paired (fun (p : Str × Sh) (q : Str × D) => q.1 = p.1 ∧ oneP n p.2 q.2 = true ∧ Wd 4 n q.2) ps l'
  | [], l, N, v7, v8, _, _, _, _ => ⟨[], N, v7, v8, by simp [forF], Nat.le_refl _, by simp, .nil⟩
  | p :: ps, l, N, v7, v8, h, hn, hl, hN => by
    have e : (p :: ps).length * b = ps.length * b + b := by rw [List.length_cons, Nat.succ_mul]
    obtain ⟨t, N1, h1, h2, h3, h4, h5⟩ := h p List.mem_cons_self N (by omega)
    have hp : p.1 ∉ l.map (·.1) := by
      rw [List.nodup_append] at hn
      intro q
      exact hn.2.2 p.1 q p.1 (by simp) rfl
    have hn' : ((l ++ [(p.1, t)]).map (·.1) ++ ps.map (·.1)).Nodup := by simpa using hn
    obtain ⟨l', N2, v7', v8', g1, g2, g3, g4⟩ := thing_loop (ps := ps) (l := l ++ [(p.1, t)]) (N := N1) (v7 := some (.d (.str p.1))) (v8 := some (.d (enc p.2))) (fun q hq => h q (List.mem_cons_of_mem _ hq)) hn' (by simp at hl ⊢; omega) (by omega)
    refine ⟨(p.1, t) :: l', N2, v7', v8', ?_, by omega, by omega, .cons ⟨rfl, h4, h5⟩ g4⟩
    have hll : l.length < 16777216 := by simp at hl; omega
    rw [List.map_cons, encp_e]
    simp only [forF, bindT, List.length_cons, List.length_nil, if_true]
    simp [setAll, h1, keyD, hll, putD_kd, putS_new hp]
    simpa using g1
theorem paired_look {n : Nat} : ∀ {ps : List (Str × Sh)} {l : List (Str × D)}, Paired (fun (p : Str × Sh) (q : Str × D) => q.1 = p.1 ∧ oneP n p.2 q.2 = true ∧ Wd 4 n q.2) ps l → (ps.map (·.1)).Nodup → (∀ p ∈ ps, ∃ u, look l p.1 = some u ∧ oneP n p.2 u = true) ∧ l.map (·.1) = ps.map (·.1) ∧ ∀ q ∈ l, Wd 4 n q.2
  | _, _, .nil, _ => ⟨by simp, rfl, by simp⟩
  | p :: ps, q :: l, .cons ⟨h1, h2, h3⟩ r, hn => by
    simp only [List.map_cons, List.nodup_cons] at hn
    obtain ⟨i1, i2, i3⟩ := paired_look r hn.2
    refine ⟨fun x hx => ?_, by simp [h1, i2], fun x hx => ?_⟩
    · rcases List.mem_cons.mp hx with rfl | hx
      · exact ⟨q.2, by simp [look, h1], h2⟩
      · obtain ⟨u, e1, e2⟩ := i1 x hx
        refine ⟨u, ?_, e2⟩
        have ne : ¬ q.1 = x.1 := fun e => hn.1 (by rw [← h1, e]; exact List.mem_map_of_mem hx)
        unfold look at e1 ⊢
        simp [ne]
        simpa using e1
    · rcases List.mem_cons.mp hx with rfl | hx
      · exact h3
      · exact i3 x hx
theorem lthing_ok : ∀ (n j : Nat) (ns : List Int) (s : Sh) (N : Nat), Gd n s → N + 5 * bT n + 20 < 16777216 → Rn (sem (j + n + 5) "_law_thing" [.scr ns, .hot 0, .d (enc s)] [.zs N]) N (bT n) (fun t => oneP n s t = true ∧ Wd 4 n t) := by
  intro n
  induction n with
  | zero => intro j ns s N h; cases h
  | succ n ih =>
    intro j ns s N h hN
    have hb : bT (n + 1) = 10 + 4 * bT n := rfl
    rw [show j + (n + 1) + 5 = (j + n + 5) + 1 by omega, u_law_thing]
    unfold m_law_thing
    cases h with
    | @num _ lo hi h1 h2 h3 =>
      obtain ⟨r, r1, r2⟩ := draw_ok (j + n + 2) ns (hi - lo + 1) N (by omega) (by omega)
      obtain ⟨x, hx, p1⟩ := pick_lst (j + n + 1) ns [.int lo, .int hi, .int (lo + (r : Nat))] (N + 1) (by simp) (by omega)
      rw [show j + n + 2 + 3 = j + n + 5 by omega] at r2
      rw [show j + n + 1 + 4 = j + n + 5 by omega] at p1
      obtain ⟨i, rfl, hi1, hi2⟩ : ∃ i, x = .int i ∧ lo ≤ i ∧ i ≤ hi := by
        simp only [List.mem_cons, List.not_mem_nil, or_false] at hx
        rcases hx with rfl | rfl | rfl
        · exact ⟨_, rfl, by omega, by omega⟩
        · exact ⟨_, rfl, by omega, by omega⟩
        · exact ⟨_, rfl, by omega, by omega⟩
      refine ⟨.int i, N + 1 + 1, ?_, by omega, by omega, by simp [oneP, isWh, hi1, hi2], .int⟩
      simp [enc, r2, p1]
    | tru =>
      obtain ⟨r, r1, r2⟩ := draw_ok (j + n + 2) ns 2 N (by decide) (by omega)
      rw [show j + n + 2 + 3 = j + n + 5 by omega] at r2
      refine ⟨.bl ((r : Int) == 0), N + 1, ?_, by omega, by omega, rfl, .bl⟩
      simp [enc, r2]
    | @wrd _ ws h1 h2 h3 h4 =>
      obtain ⟨x, hx, p1⟩ := pick_tup (j + n + 1) ns (ws.map .str) N (by intro e; simp at e; rw [e] at h1; simp at h1) (by omega)
      rw [show j + n + 1 + 4 = j + n + 5 by omega] at p1
      obtain ⟨w, hw, rfl⟩ := List.mem_map.mp hx
      refine ⟨.str w, N + 1, ?_, by omega, by omega, ?_, .str⟩
      · simp [enc, p1]
      · simp only [oneP, List.any_eq_true]
        exact ⟨w, hw, beq_self_eq_true _⟩
    | @txt _ m h1 =>
      obtain ⟨r, r1, r2⟩ := draw_ok (j + n + 2) ns ((m : Int) + 1) N (by omega) (by omega)
      rw [show j + n + 2 + 3 = j + n + 5 by omega] at r2
      obtain ⟨ys, N', c1, c2, c3, c4⟩ := comp_rn (t := .n 9) (W := [9]) (ft := tYesF) (fe := eOwn (sem (j + n + 5) "_law_pick") (aCons (eVar 0) (aCons (eVar 1) (aCons (eC (.str "abc")) aNil))))
        (ρ := [some (.scr ns), some (.hot 0), some (.d (enc (.txt m))), some (.d (.str "text")), none, none, none, none, none, none]) (b := 1) (P := fun (_ y : D) => ∃ c, y = .str ⟨#[c]⟩ ∧ c ∈ ("abc" : Str).cps.toList) (ds := (List.range r).map fun i => .int (i : Nat)) (n := N + 1) (fun x hx N' a1 a2 => by
          simp at a2
          obtain ⟨c, hc, p1⟩ := pick_str (j + n + 1) ns "abc" N' (by decide) (by omega)
          rw [show j + n + 1 + 4 = j + n + 5 by omega] at p1
          refine ⟨.str ⟨#[c]⟩, N' + 1, ?_, by omega, by omega, c, rfl, hc⟩
          simp [turnF, bindT, wipeR, p1])
      obtain ⟨cs, rfl, hcs⟩ := strsOf_signs (fun c => c ∈ ("abc" : Str).cps.toList) (paired_all (Q := fun (y : D) => ∃ c, y = .str ⟨#[c]⟩ ∧ c ∈ ("abc" : Str).cps.toList) (fun _ _ h => h) c4)
      have hlen := Paired.length c4
      simp at hlen c3
      refine ⟨.str ⟨cs.toArray⟩, N', ?_, by omega, by omega, ?_, .str⟩
      · have e1 : (r : Int) ≤ 16777216 := by omega
        have e3 : -1073741824 ≤ (r : Int) := by omega
        have e4 := joinD_signs cs (by omega)
        simp [enc] at c1
        simp [enc, r2, e1, e3, c1, e4]
      · have e1 : (⟨cs.toArray⟩ : Str).length ≤ m := by show cs.toArray.size ≤ m; simp; omega
        simp only [oneP, decide_eq_true e1, Bool.true_and, letters, List.all_eq_true, decide_eq_true_eq]
        intro c hc
        exact hcs c (by simpa using hc)
    | @lis _ m s h1 h2 =>
      obtain ⟨r, r1, r2⟩ := draw_ok (j + n + 2) ns ((m : Int) + 1) N (by omega) (by omega)
      rw [show j + n + 2 + 3 = j + n + 5 by omega] at r2
      have hr : r * bT n ≤ 4 * bT n := Nat.mul_le_mul_right _ (by omega)
      obtain ⟨ys, N', c1, c2, c3, c4⟩ := comp_rn (t := .n 9) (W := [9]) (ft := tYesF) (fe := eOwn (sem (j + n + 5) "_law_thing") (aCons (eVar 0) (aCons (eVar 1) (aCons (eIx (eVar 2) (eC (.int 1))) aNil))))
        (ρ := [some (.scr ns), some (.hot 0), some (.d (enc (.lis s m))), some (.d (.str "list")), none, none, none, none, none, none]) (b := bT n) (P := fun (_ y : D) => oneP n s y = true ∧ Wd 4 n y) (ds := (List.range r).map fun i => .int (i : Nat)) (n := N + 1) (fun x hx N' a1 a2 => by
          simp at a2
          obtain ⟨t, N2, q1, q2, q3, q4⟩ := ih j ns s N' h1 (by omega)
          refine ⟨t, N2, ?_, q2, q3, q4⟩
          simp [turnF, bindT, wipeR, q1, enc])
      have hlen := Paired.length c4
      simp at hlen c3
      have all := paired_all (Q := fun (y : D) => oneP n s y = true ∧ Wd 4 n y) (fun _ _ h => h) c4
      refine ⟨.lst ys, N', ?_, by omega, by omega, ?_, .lst (by omega) fun x hx => (all x hx).2⟩
      · have e1 : (r : Int) ≤ 16777216 := by omega
        have e3 : -1073741824 ≤ (r : Int) := by omega
        simp [enc] at c1
        simp [enc, r2, e1, e3, c1]
      · have e1 : ys.length ≤ m := by omega
        simp only [oneP, decide_eq_true e1, Bool.true_and, List.all_eq_true]
        exact fun x hx => (all x hx).1
    | @may _ s h1 h2 =>
      obtain ⟨r, r1, r2⟩ := draw_ok (j + n + 2) ns 3 N (by decide) (by omega)
      rw [show j + n + 2 + 3 = j + n + 5 by omega] at r2
      by_cases e : r = 0
      · refine ⟨.non, N + 1, ?_, by omega, by omega, rfl, .non⟩
        simp [enc, r2, e, truA]
      · obtain ⟨t, N2, q1, q2, q3, q4, q5⟩ := ih j ns s (N + 1) h1 (by omega)
        refine ⟨t, N2, ?_, by omega, by omega, ?_, q5.mono (Nat.le_refl _) (by omega)⟩
        · have e' : ¬ ((r : Int) = 0) := by omega
          have e'' : ((r : Int) == 0) = false := by simpa using e'
          simp [enc, r2, e'', truA, q1]
        · cases t <;> simp [oneP, q4]
    | @rcd _ ps h1 h2 h3 h4 =>
      have hps : ps.length * bT n ≤ 4 * bT n := Nat.mul_le_mul_right _ h1
      obtain ⟨l', N', v7, v8, g1, g2, g3, g4⟩ := thing_loop (k := j + n + 5) (n := n) (b := bT n) (ns := ns) (a2 := some (.d (.tup [.str "rec", .tup (ps.map encp)]))) (a3 := some (.d (.str "rec"))) (a5 := none) (a6 := none) (a9 := none) (ps := ps) (l := []) (N := N) (v7 := none) (v8 := none)
        (fun p hp N hN => ih j ns p.2 N (h3 p hp) (by omega)) (by simpa using h4) (by simp; omega) (by omega)
      obtain ⟨i1, i2, i3⟩ := paired_look g4 h4
      refine ⟨.dct (kd l'), N', ?_, by omega, by omega, ?_, .dct (by rw [← List.length_map (f := (·.1)), i2, List.length_map]; exact h1) i3 (by rw [i2]; exact h4)⟩
      · have e0 : kd [] = [] := rfl
        rw [e0] at g1
        simp at g1
        simp [enc, encs_map, g1]
      · have el : l'.length = ps.length := by rw [← List.length_map (f := (·.1)), i2, List.length_map]
        simp only [oneP, kd_len, el, beq_self_eq_true, Bool.true_and, List.all_eq_true, look_kd]
        intro p hp
        obtain ⟨u, e1, e2⟩ := i1 p hp
        rw [e1]; exact e2
    | @knd _ ps h1 h2 h3 h4 h5 =>
      obtain ⟨x, hx, p1⟩ := pick_tup (j + n + 1) ns (ps.map encp) N (by intro e; simp at e; rw [e] at h1; simp at h1) (by omega)
      rw [show j + n + 1 + 4 = j + n + 5 by omega] at p1
      obtain ⟨p, hp, rfl⟩ := List.mem_map.mp hx
      obtain ⟨t, N2, q1, q2, q3, q4, q5⟩ := ih j ns p.2 (N + 1) (h4 p hp) (by omega)
      refine ⟨.tup [.str p.1, t], N2, ?_, by omega, by omega, ?_, .tup2 q5⟩
      · simp [enc, encs_map, p1, bindT, setAll, q1]
      · simp only [oneP, List.any_eq_true, Bool.and_eq_true, beq_iff_eq]
        exact ⟨p, hp, rfl, q4⟩
end Law
namespace Law
open PySem L2 G
def pool : List D := [.bl true, .int 1, .int 0, .int (-9), .int 1000001, .str "", .str "a", .str "d", .str "abcab", .non, .lst [], .lst [.non], .dct [], .tup [], .tup [.str "a", .int 0], .tup [.str "a"], .tup [.str "what", .lst []]]
theorem pool_wd {c : Nat} (hc : 1 ≤ c) : ∀ x ∈ pool, Wd c 2 x := by
  intro x hx
  unfold pool at hx
  simp only [List.mem_cons, List.not_mem_nil, or_false] at hx
  rcases hx with rfl | rfl | rfl | rfl | rfl | rfl | rfl | rfl | rfl | rfl | rfl | rfl | rfl | rfl | rfl | rfl | rfl
  · exact .bl
  · exact .int
  · exact .int
  · exact .int
  · exact .int
  · exact .str
  · exact .str
  · exact .str
  · exact .str
  · exact .non
  · exact .lst (by simp) (by simp)
  · exact .lst (by simpa using hc) (by intro x hx; simp at hx; subst hx; exact .non)
  · exact .dct (l := []) (by simp) (by simp) (by simp)
  · exact .tup0
  · exact .tup2 .int
  · exact .tup1
  · exact .tup2 (.lst (by simp) (by simp))
theorem cut_to (xs : List D) (r : Nat) : cutD xs none (some (r : Nat)) = xs.take r := by
  unfold cutD
  have e1 : HT.sIx xs.length 0 none = 0 := rfl
  have e2 : HT.sIx xs.length xs.length (some (r : Int)) = min r xs.length := HT.sIx_nat _ _ r
  rw [e1, e2]
  simp
theorem cut_1 (xs : List D) : cutD xs none (some 1) = xs.take 1 := cut_to xs 1
theorem cut_from (xs : List D) (r : Nat) : cutD xs (some ((r : Int) + 1)) none = xs.drop (r + 1) := by
  unfold cutD
  have e1 : HT.sIx xs.length 0 (some ((r : Int) + 1)) = min (r + 1) xs.length := by
    have := HT.sIx_nat xs.length 0 (r + 1)
    simpa using this
  have e2 : HT.sIx xs.length xs.length none = xs.length := rfl
  rw [e1, e2]
  by_cases h : r + 1 ≤ xs.length
  · rw [Nat.min_eq_left h, List.take_of_length_le (by simp)]
  · rw [Nat.min_eq_right (by omega), List.drop_of_length_le (by omega), List.drop_of_length_le (by omega)]; simp
theorem dropD_kd (l : List (Str × D)) (z : Str) : dropD (kd l) (.inr z) = kd (l.filter fun q => decide (q.1 ≠ z)) := by
  unfold dropD kd
  rw [List.filter_map]
  congr 1
  refine List.filter_congr fun q _ => ?_
  simp
def rep4 (xs : List D) : List D := (List.replicate 4 (xs.take 1)).flatten
def ext5 (xs : List D) : List D := xs ++ [.non, .str "x", .int 7, .bl true, .str ""]
def bP : Nat → Nat
  | 0 => 20
  | d + 1 => 20 + bP d
theorem bP_ge (d : Nat) : 20 ≤ bP d := by cases d <;> simp [bP]
theorem lspoilt_ok : ∀ (d j : Nat) (ns : List Int) (t : D) (c N : Nat), Wd c d t → c ≤ 30 → N + bP d + 20 < 16777216 → Rn (sem (j + d + 6) "_law_spoilt" [.scr ns, .hot 0, .d t] [.zs N]) N (bP d) (fun t' => Wd (c + 5) (d + 2) t') := by
  intro d
  induction d with
  | zero =>
    intro j ns t c N h hc hN
    have pk : ∀ N, N < 16777216 → ∃ x ∈ pool, sem (j + 0 + 5) "_law_pick" [.scr ns, .hot 0, .d (.lst pool)] [.zs N] = .ok x [.zs (N + 1)] := fun N hN => by
      have := pick_lst (j + 1) ns pool N (by simp [pool]) hN
      rw [show j + 1 + 4 = j + 0 + 5 by omega] at this
      exact this
    obtain ⟨x, hx, p1⟩ := pk N (by omega)
    rw [show j + 0 + 6 = (j + 0 + 5) + 1 by omega, u_law_spoilt]
    unfold m_law_spoilt
    refine ⟨x, N + 1, ?_, by omega, by simp [bP], (pool_wd (by omega) x hx).mono (Nat.le_refl _) (by omega)⟩
    unfold pool at p1
    cases h <;> simp [isi, negD, p1]
  | succ d ih =>
    intro j ns t c N h hc hN
    have hb : bP (d + 1) = 20 + bP d := rfl
    have hb2 := bP_ge d
    rw [show j + (d + 1) + 6 = (j + d + 6) + 1 by omega, u_law_spoilt]
    unfold m_law_spoilt
    have pk : ∀ N, N < 16777216 → ∃ x ∈ pool, sem (j + d + 6) "_law_pick" [.scr ns, .hot 0, .d (.lst pool)] [.zs N] = .ok x [.zs (N + 1)] := fun N hN => by
      have := pick_lst (j + d + 2) ns pool N (by simp [pool]) hN
      rw [show j + d + 2 + 4 = j + d + 6 by omega] at this
      exact this
    have dr : ∀ (m : Int) (N : Nat), 0 < m → N < 16777216 → ∃ r : Nat, (r : Int) < m ∧ sem (j + d + 6) "_law_draw" [.scr ns, .hot 0, .d (.int m)] [.zs N] = .ok (.int (r : Nat)) [.zs (N + 1)] := fun m N hm hN => by
      have := draw_ok (j + d + 3) ns m N hm hN
      rw [show j + d + 3 + 3 = j + d + 6 by omega] at this
      exact this
    have pw : ∀ x ∈ pool, Wd (c + 5) (d + 1 + 2) x := fun x hx => (pool_wd (by omega) x hx).mono (Nat.le_refl _) (by omega)
    have leaf : ∀ t : D, (isi .list t = false) → (isi .tuple t = false) → (isi .dict t = false) → True := fun _ _ _ _ => trivial
    cases h with
    | non =>
      obtain ⟨x, hx, p1⟩ := pk N (by omega)
      refine ⟨x, N + 1, ?_, by omega, by omega, pw x hx⟩
      unfold pool at p1; simp [isi, negD, p1]
    | bl =>
      obtain ⟨x, hx, p1⟩ := pk N (by omega)
      refine ⟨x, N + 1, ?_, by omega, by omega, pw x hx⟩
      unfold pool at p1; simp [isi, negD, p1]
    | int =>
      obtain ⟨x, hx, p1⟩ := pk N (by omega)
      refine ⟨x, N + 1, ?_, by omega, by omega, pw x hx⟩
      unfold pool at p1; simp [isi, negD, p1]
    | str =>
      obtain ⟨x, hx, p1⟩ := pk N (by omega)
      refine ⟨x, N + 1, ?_, by omega, by omega, pw x hx⟩
      unfold pool at p1; simp [isi, negD, p1]
    | tup0 =>
      obtain ⟨x, hx, p1⟩ := pk N (by omega)
      refine ⟨x, N + 1, ?_, by omega, by omega, pw x hx⟩
      unfold pool at p1; simp [isi, negD, p1]
    | tup1 =>
      obtain ⟨x, hx, p1⟩ := pk N (by omega)
      refine ⟨x, N + 1, ?_, by omega, by omega, pw x hx⟩
      unfold pool at p1; simp [isi, negD, p1]
    | @tup2 _ z u h1 =>
      obtain ⟨r, r1, r2⟩ := dr 4 N (by decide) (by omega)
      by_cases e : 0 < r
      · obtain ⟨t', N', q1, q2, q3, q4⟩ := ih j ns u c (N + 1) h1 hc (by omega)
        refine ⟨.tup [.str z, t'], N', ?_, by omega, by omega, .tup2 q4⟩
        simp [isi, r2, e, q1]
      · obtain ⟨x, hx, p1⟩ := pk (N + 1) (by omega)
        refine ⟨x, N + 1 + 1, ?_, by omega, by omega, pw x hx⟩
        unfold pool at p1; simp [isi, r2, e, negD, p1]
    | @lst _ xs h1 h2 =>
      have two : ∀ N, N < 16777216 → ∃ x, Wd (c + 5) (d + 1 + 2) x ∧ sem (j + d + 6) "_law_pick" [.scr ns, .hot 0, .d (.lst (pool ++ [.lst (xs ++ rep4 xs), .lst (ext5 xs)]))] [.zs N] = .ok x [.zs (N + 1)] := fun N hN => by
        obtain ⟨x, hx, p1⟩ := pick_lst (j + d + 2) ns (pool ++ [.lst (xs ++ rep4 xs), .lst (ext5 xs)]) N (by simp [pool]) hN
        rw [show j + d + 2 + 4 = j + d + 6 by omega] at p1
        refine ⟨x, ?_, p1⟩
        rcases List.mem_append.mp hx with hx | hx
        · exact pw x hx
        · simp only [List.mem_cons, List.not_mem_nil, or_false] at hx
          rcases hx with rfl | rfl
          · refine .lst ?_ fun y hy => ?_
            · rw [List.length_append]
              have : (rep4 xs).length ≤ 4 := by
                cases xs <;> simp [rep4]
              omega
            · rcases List.mem_append.mp hy with hy | hy
              · exact (h2 y hy).mono (by omega) (by omega)
              · obtain ⟨l, hl, hy⟩ := List.mem_flatten.mp hy
                rw [(List.mem_replicate.mp hl).2] at hy
                exact (h2 y (List.mem_of_mem_take hy)).mono (by omega) (by omega)
          · refine .lst (by simp [ext5]; omega) fun y hy => ?_
            unfold ext5 at hy
            rcases List.mem_append.mp hy with hy | hy
            · exact (h2 y hy).mono (by omega) (by omega)
            · simp only [List.mem_cons, List.not_mem_nil, or_false] at hy
              rcases hy with rfl | rfl | rfl | rfl | rfl
              · exact .non
              · exact .str
              · exact .int
              · exact .bl
              · exact .str
      have m4 : mulD (.lst (xs.take 1)) (.int 4) = some (.lst (rep4 xs)) := by
        have : (xs.take 1).length ≤ 1 := by rw [List.length_take]; omega
        simp only [mulD, sl_line]
        rw [if_pos ⟨by decide, by decide, by show (xs.take 1).length * 4 ≤ _; omega⟩]
        rfl
      have l4 : xs.length + (rep4 xs).length ≤ 16777216 := by
        have : (rep4 xs).length ≤ 4 := by
          cases xs <;> simp [rep4]
        omega
      have l5 : xs.length + 5 ≤ 16777216 := by omega
      cases xs with
      | nil =>
        obtain ⟨x, hx, p1⟩ := two N (by omega)
        refine ⟨x, N + 1, ?_, by omega, by omega, hx⟩
        unfold pool at p1
        simp [rep4, ext5] at p1 m4
        simp [isi, negD, slD, cut_1, m4, p1]
      | cons y ys =>
        have hcons : (y :: ys).isEmpty = false := rfl
        obtain ⟨r, r1, r2⟩ := dr 4 N (by decide) (by omega)
        by_cases e : 0 < r
        · obtain ⟨q, q1, q2⟩ := dr ((y :: ys).length : Nat) (N + 1) (by rw [List.length_cons]; omega) (by omega)
          have hq : q < (y :: ys).length := by omega
          obtain ⟨t', N', w1, w2, w3, w4⟩ := ih j ns (y :: ys)[q] c (N + 1 + 1) (h2 _ (List.getElem_mem hq)) hc (by omega)
          refine ⟨.lst ((y :: ys).take q ++ [t'] ++ (y :: ys).drop (q + 1)), N', ?_, by omega, by omega, .lst ?_ fun x hx => ?_⟩
          · have a1 := G.atI_nat hq
            have b1 : ((y :: ys).take q).length + 1 ≤ 16777216 := by rw [List.length_take]; omega
            have b2 : ((y :: ys).take q ++ [t']).length + ((y :: ys).drop (q + 1)).length ≤ 16777216 := by
              have h1' : ys.length + 1 ≤ c := by simpa using h1
              rw [List.length_append, List.length_take, List.length_drop, List.length_cons, List.length_cons, List.length_nil]; omega
            have b3 : addD (.lst ((y :: ys).take q)) (.lst [t']) = some (.lst ((y :: ys).take q ++ [t'])) := addD_lst (by simpa using b1)
            have b4 := addD_lst b2
            have c1 := cut_to (y :: ys) q
            have c2 := cut_from (y :: ys) q
            have q2' : sem (j + d + 6) "_law_draw" [.scr ns, .hot 0, .d (.int ((ys.length : Int) + 1))] [.zs (N + 1)] = .ok (.int (q : Nat)) [.zs (N + 1 + 1)] := by simpa using q2
            simp only [List.length_cons] at hq
            simp [isi, r2, e, q2', slD, c1, c2, a1, w1, b3, b4, -List.take_succ_cons, -List.drop_succ_cons, -List.append_assoc, -List.cons_append]
          · rw [List.length_append, List.length_append, List.length_take, List.length_drop]; simp; simp at h1 hq; omega
          · rcases List.mem_append.mp hx with hx | hx
            · rcases List.mem_append.mp hx with hx | hx
              · exact (h2 x (List.mem_of_mem_take hx)).mono (by omega) (by omega)
              · simp at hx; rw [hx]; exact w4
            · exact (h2 x (List.mem_of_mem_drop hx)).mono (by omega) (by omega)
        · obtain ⟨x, hx, p1⟩ := two (N + 1) (by omega)
          refine ⟨x, N + 1 + 1, ?_, by omega, by omega, hx⟩
          unfold pool at p1
          have b1 := addD_lst l4
          have b2 : addD (.lst (y :: ys)) (.lst [.non, .str "x", .int 7, .bl true, .str ""]) = some (.lst (ext5 (y :: ys))) := addD_lst (by simpa using l5)
          have c1 := cut_1 (y :: ys)
          simp only [List.cons_append, List.nil_append] at p1 b1
          simp [isi, r2, e, negD, slD, c1, m4, b1, b2, p1, -List.take_succ_cons]
    | @dct _ l h1 h2 h3 =>
      have c12 : ∀ N, N + 20 < 16777216 → ∀ r : Nat, sem (j + d + 6) "_law_draw" [.scr ns, .hot 0, .d (.int 2)] [.zs N] = .ok (.int (r : Nat)) [.zs (N + 1)] → True := fun _ _ _ _ => trivial
      have h64 : l.length < 64 := by omega
      have low : ∀ N, N + 20 < 16777216 → ∃ x N', N ≤ N' ∧ N' ≤ N + 12 ∧ Wd (c + 5) (d + 1 + 2) x ∧ ((∃ z, sem (j + d + 6) "_law_draw" [.scr ns, .hot 0, .d (.int 2)] [.zs N] = .ok (.int 0) [.zs (N + 1)] ∧ sem (j + d + 6) "_law_word" [.scr ns, .hot 0] [.zs (N + 1)] = .ok (.str z) [.zs N'] ∧ x = .dct (kd (putS l z (.int 0)))) ∨
          (∃ r : Nat, r ≠ 0 ∧ sem (j + d + 6) "_law_draw" [.scr ns, .hot 0, .d (.int 2)] [.zs N] = .ok (.int (r : Nat)) [.zs (N + 1)] ∧ sem (j + d + 6) "_law_pick" [.scr ns, .hot 0, .d (.lst pool)] [.zs (N + 1)] = .ok x [.zs N'])) := by
        intro N hN
        obtain ⟨r, r1, r2⟩ := dr 2 N (by decide) (by omega)
        by_cases e : r = 0
        · subst e
          obtain ⟨y, N', w1, w2, w3, z, rfl, w4⟩ := lword_ok (j + d + 1) ns (N + 1) (by omega)
          rw [show j + d + 1 + 5 = j + d + 6 by omega] at w1
          refine ⟨.dct (kd (putS l z (.int 0))), N', by omega, by omega, .dct ?_ ?_ (putS_nodup h3), .inl ⟨z, by simpa using r2, w1, rfl⟩⟩
          · have := (putS_len l z (.int 0)).1; omega
          · intro q hq
            rcases putS_mem hq with h | h
            · exact (h2 q h).mono (by omega) (by omega)
            · rw [h]; exact .int
        · obtain ⟨x, hx, p1⟩ := pk (N + 1) (by omega)
          exact ⟨x, N + 1 + 1, by omega, by omega, pw x hx, .inr ⟨r, e, r2, p1⟩⟩
      have hl16 : l.length < 16777216 := by omega
      cases l with
      | nil =>
        obtain ⟨x, N', g1, g2, g3, g4⟩ := low N (by omega)
        refine ⟨x, N', ?_, by omega, by omega, g3⟩
        have e0 : kd [] = [] := rfl
        rcases g4 with ⟨z, k1, k2, rfl⟩ | ⟨r, k0, k1, k2⟩
        · have e1 := putD_kd [] z (.int 0)
          rw [e0] at e1
          simp [isi, e0, k1, k2, keyD, e1]
        · unfold pool at k2
          simp [isi, e0, k1, k0, negD, k2]
      | cons y ys =>
        obtain ⟨r, r1, r2⟩ := dr 4 N (by decide) (by omega)
        have hne : (kd (y :: ys)).isEmpty = false := rfl
        by_cases e : 0 < r
        · have sne : (sortK ((y :: ys).map (·.1))).map D.str ≠ [] := by
            intro q
            have := congrArg List.length q
            simp [(sort_p _).length_eq] at this
          obtain ⟨x, hx, p1⟩ := pick_lst (j + d + 2) ns ((sortK ((y :: ys).map (·.1))).map D.str) (N + 1) sne (by omega)
          rw [show j + d + 2 + 4 = j + d + 6 by omega] at p1
          obtain ⟨z, hz, rfl⟩ := List.mem_map.mp hx
          have hz' := (sort_p _).mem_iff.mp hz
          obtain ⟨q, hq, rfl⟩ := List.mem_map.mp hz'
          have lk := look_some h3 hq
          obtain ⟨r', r1', r2'⟩ := dr 4 (N + 1 + 1) (by decide) (by omega)
          have sk : sortKeysD (.dct (kd (y :: ys))) = some (.lst ((sortK ((y :: ys).map (·.1))).map .str)) := by
            simp only [sortKeysD, keyStrs_kd, Option.bind_some]
            rw [if_pos (by simpa using h64)]
          have hsub : ∀ q' ∈ (y :: ys).filter (fun q' => decide (q'.1 ≠ q.1)), q' ∈ y :: ys := fun q' h => (List.mem_filter.mp h).1
          have hnd : (((y :: ys).filter (fun q' => decide (q'.1 ≠ q.1))).map (·.1)).Nodup := h3.sublist ((List.filter_sublist).map _)
          have hfl : ((y :: ys).filter (fun q' => decide (q'.1 ≠ q.1))).length ≤ (y :: ys).length := List.length_filter_le _ _
          have lk' : (lookK (kd (y :: ys)) (.inr q.1)).isSome = true := by rw [look_kd, lk]; rfl
          by_cases e' : 0 < r'
          · obtain ⟨t', N', w1, w2, w3, w4⟩ := ih j ns q.2 c (N + 1 + 1 + 1) (h2 q hq) hc (by omega)
            refine ⟨.dct (kd (putS ((y :: ys).filter (fun q' => decide (q'.1 ≠ q.1))) q.1 t')), N', ?_, by omega, by omega, .dct ?_ ?_ (putS_nodup hnd)⟩
            · have hfl2 : ((y :: ys).filter (fun q' => decide (q'.1 ≠ q.1))).length < 16777216 := by omega
              have pd := putD_kd ((y :: ys).filter (fun q' => decide (q'.1 ≠ q.1))) q.1 t'
              have dd := dropD_kd (y :: ys) q.1
              have kl : (kd ((y :: ys).filter (fun q' => decide (q'.1 ≠ q.1)))).length < 16777216 := by rw [kd_len]; exact hfl2
              have lk2 : lookK (kd (y :: ys)) (.inr q.1) = some q.2 := by rw [look_kd, lk]
              generalize kd (putS ((y :: ys).filter (fun q' => decide (q'.1 ≠ q.1))) q.1 t') = K3 at *
              generalize kd ((y :: ys).filter (fun q' => decide (q'.1 ≠ q.1))) = K2 at *
              generalize kd (y :: ys) = K1 at *
              generalize (sortK ((y :: ys).map (·.1))).map D.str = SS at *
              simp [isi, hne, r2, e, sk, p1, keyD, lk2, dd, r2', e', w1, kl, pd]
            · have := (putS_len ((y :: ys).filter (fun q' => decide (q'.1 ≠ q.1))) q.1 t').1; omega
            · intro x hx
              rcases putS_mem hx with h | h
              · exact (h2 x (hsub x h)).mono (by omega) (by omega)
              · rw [h]; exact w4
          · refine ⟨.dct (kd ((y :: ys).filter (fun q' => decide (q'.1 ≠ q.1)))), N + 1 + 1 + 1, ?_, by omega, by omega, .dct (by omega) (fun x hx => (h2 x (hsub x hx)).mono (by omega) (by omega)) hnd⟩
            have dd := dropD_kd (y :: ys) q.1
            have lk2 : lookK (kd (y :: ys)) (.inr q.1) = some q.2 := by rw [look_kd, lk]
            generalize kd ((y :: ys).filter (fun q' => decide (q'.1 ≠ q.1))) = K2 at *
            generalize kd (y :: ys) = K1 at *
            generalize (sortK ((y :: ys).map (·.1))).map D.str = SS at *
            simp [isi, hne, r2, e, sk, p1, keyD, lk2, dd, r2', e']
        · obtain ⟨x, N', g1, g2, g3, g4⟩ := low (N + 1) (by omega)
          refine ⟨x, N', ?_, by omega, by omega, g3⟩
          rcases g4 with ⟨z, k1, k2, rfl⟩ | ⟨r', k0, k1, k2⟩
          · have e1 := putD_kd (y :: ys) z (.int 0)
            have kl : (kd (y :: ys)).length < 16777216 := by rw [kd_len]; exact hl16
            generalize kd (y :: ys) = K at *
            simp [isi, hne, r2, e, k1, k2, keyD, e1, kl]
          · unfold pool at k2
            generalize kd (y :: ys) = K at *
            simp [isi, hne, r2, e, k1, k0, negD, k2]
end Law
namespace Law
open PySem L2 G
mutual
theorem eqv_self : ∀ d : PyData, d.plain = true → PyData.eqv d d = true
  | .none, _ => by simp [PyData.eqv]
  | .bool _, _ => by simp [PyData.eqv]
  | .int _, _ => by simp [PyData.eqv]
  | .str _, _ => by simp [PyData.eqv]
  | .list xs, h => by
    simp only [PyData.eqv]
    exact eqvAll_self xs (by simpa [PyData.plain] using h)
  | .tuple xs, h => by
    simp only [PyData.eqv]
    exact eqvAll_self xs (by simpa [PyData.plain] using h)
  | .dict _, h => by simp [PyData.plain] at h
theorem eqvAll_self : ∀ xs : List PyData, PyData.plainAll xs = true → PyData.eqvAll xs xs = true
  | [], _ => by simp [PyData.eqvAll]
  | x :: xs, h => by
    have h' : x.plain = true ∧ PyData.plainAll xs = true := by simpa [PyData.plainAll] using h
    simp only [PyData.eqvAll, eqv_self x h'.1, eqvAll_self xs h'.2, Bool.and_self]
end
def flatX (d : D) : Prop := (∃ i, d = .int i) ∨ ∃ z, d = .str z
def isFl (f : D) : Prop := ∃ p w, f = fl p w ∧ ∀ x ∈ p, flatX x
theorem flat_py : ∀ p : List D, (∀ x ∈ p, flatX x) → PyData.plainAll (toPys p) = true ∧ PyData.depthAll (toPys p) ≤ 1
  | [], _ => by simp [toPys, PyData.plainAll, PyData.depthAll]
  | x :: p, h => by
    have ih := flat_py p fun y hy => h y (List.mem_cons_of_mem _ hy)
    rcases h x List.mem_cons_self with ⟨i, rfl⟩ | ⟨z, rfl⟩
    · simp [toPys, toPy, PyData.plainAll, PyData.depthAll, PyData.plain, PyData.depth, ih]
    · simp [toPys, toPy, PyData.plainAll, PyData.depthAll, PyData.plain, PyData.depth, ih]
theorem fl_py {f : D} (h : isFl f) : (toPy f).plain = true ∧ (toPy f).depth ≤ 10 := by
  obtain ⟨p, w, rfl, hp⟩ := h
  obtain ⟨h1, h2⟩ := flat_py p hp
  refine ⟨by simp [fl, toPy, toPys, PyData.plain, PyData.plainAll, h1], ?_⟩
  simp [fl, toPy, toPys, PyData.depth, PyData.depthAll]
  omega
theorem fls_py : ∀ F : List D, (∀ f ∈ F, isFl f) → PyData.plainAll (toPys F) = true ∧ PyData.depthAll (toPys F) ≤ 10
  | [], _ => by simp [toPys, PyData.plainAll, PyData.depthAll]
  | f :: F, h => by
    have ih := fls_py F fun y hy => h y (List.mem_cons_of_mem _ hy)
    have hf := fl_py (h f List.mem_cons_self)
    refine ⟨by simp [toPys, PyData.plainAll, hf.1, ih.1], ?_⟩
    simp [toPys, PyData.depthAll]
    omega
theorem eqD_fls {F : List D} (h : ∀ f ∈ F, isFl f) : eqD (.lst F) (.lst F) = some true := by
  obtain ⟨h1, h2⟩ := fls_py F h
  have hp : (toPy (.lst F)).plain = true := by simp [toPy, PyData.plain, h1]
  unfold eqD plainD
  rw [hp, Bool.and_self, if_pos rfl, if_pos, eqv_self _ hp]
  simp [toPy, PyData.depth]
  omega
theorem wr_fl : ∀ (n : Nat) (s : Sh) (t : D) (p : List D), (∀ x ∈ p, flatX x) → ∀ f ∈ wrP n s t p, isFl f := by
  intro n
  induction n with
  | zero => intro s t p _ f hf; simp [wrP] at hf
  | succ n ih =>
    intro s t p hp f hf
    have one : ∀ w, isFl (fl p w) := fun w => ⟨p, w, rfl, hp⟩
    have ext : ∀ (x : D), flatX x → ∀ y ∈ p ++ [x], flatX y := fun x hx y hy => by
      rcases List.mem_append.mp hy with hy | hy
      · exact hp y hy
      · simp at hy; rw [hy]; exact hx
    unfold wrP at hf
    cases s with
    | num lo hi =>
      dsimp only at hf
      split at hf
      · split at hf
        · simp at hf; rw [hf]; exact one _
        · split at hf
          · simp at hf; rw [hf]; exact one _
          · cases hf
      · simp at hf; rw [hf]; exact one _
    | tru =>
      dsimp only at hf
      split at hf
      · cases hf
      · simp at hf; rw [hf]; exact one _
    | wrd ws =>
      dsimp only at hf
      split at hf
      · cases hf
      · simp at hf; rw [hf]; exact one _
    | txt m =>
      dsimp only at hf
      split at hf
      · split at hf
        · split at hf
          · simp at hf; rw [hf]; exact one _
          · cases hf
        · simp at hf; rw [hf]; exact one _
      · simp at hf; rw [hf]; exact one _
    | lis s m =>
      dsimp only at hf
      split at hf
      · rcases List.mem_append.mp hf with hf | hf
        · split at hf
          · simp at hf; rw [hf]; exact one _
          · cases hf
        · obtain ⟨i, _, hi⟩ := List.mem_flatMap.mp hf
          exact ih s _ _ (ext _ (.inl ⟨_, rfl⟩)) f hi
      · simp at hf; rw [hf]; exact one _
    | may s =>
      dsimp only at hf
      split at hf
      · cases hf
      · exact ih s _ p hp f hf
    | rcd ps =>
      dsimp only at hf
      split at hf
      · split at hf
        · rcases List.mem_append.mp hf with hf | hf
          · obtain ⟨q, _, hq⟩ := List.mem_flatMap.mp hf
            unfold recF at hq
            split at hq
            · exact ih q.2 _ _ (ext _ (.inr ⟨_, rfl⟩)) f hq
            · simp at hq; rw [hq]; exact ⟨_, _, rfl, ext _ (.inr ⟨_, rfl⟩)⟩
          · unfold unkF at hf
            obtain ⟨z, _, rfl⟩ := List.mem_map.mp hf
            exact ⟨_, _, rfl, ext _ (.inr ⟨_, rfl⟩)⟩
        · simp at hf; rw [hf]; exact one _
      · simp at hf; rw [hf]; exact one _
    | knd ps =>
      dsimp only at hf
      split at hf
      · split at hf
        · exact ih _ _ _ (ext _ (.inr ⟨_, rfl⟩)) f hf
        · simp at hf; rw [hf]; exact one _
      · simp at hf; rw [hf]; exact one _
theorem lwr (n j m : Nat) (s : Sh) (t : D) (S : Sx) (h : Gd 4 s) (w : Wd 32 m t) (hj : n = j + 12) : sem n "_law_wrong" [.d (enc s), .d t, .d (.tup [])] S = .ok (.lst (wrP 4 s t [])) S := by
  have := lwrong_ok 4 j m s t [] S (by omega) h w (by simp)
  rw [hj]
  exact this
theorem mk0 {c : List D → D} {S : Sx} : mkSeq c [] S = .ok (.d (c [])) S := mkSeq_ds rfl (by simp)
/-- one turn of the law's loop -/
theorem turn_ok (ns : List Int) (s : Sh) (t : D) (c d N : Nat) (v4 v5 : Option A) (i : D) (hs : Gd 4 s) (w : Wd c d t) (hc : c + 5 ≤ 32) (hd : d ≤ 20) (hN : N + bP d + 20 < 16777216) :
    ∃ t' N' v', (sSeq (sAsg 3 (eOwn (sem 100 "_law_spoilt") (aCons (eVar 0) (aCons (eVar 1) (aCons (eVar 3) aNil))))) (sSeq (sAsg 5 (eOwn (sem 100 "faults") (aCons (eVar 2) (aCons (eVar 3) aNil)))) (sIf (tOrF (tst (eOp neO (eVar 5) (eOwn (sem 100 "_law_wrong") (aCons (eVar 2) (aCons (eVar 3) (aCons (eTup aNil) aNil)))))) (tst (eOp neO (eOwn (sem 100 "is_of") (aCons (eVar 2) (aCons (eVar 3) aNil))) (eOp eqO (eVar 5) (eLst aNil))))) (sRet (eC (.bl false))) sNil)))
      [some (.scr ns), some (.hot 0), some (.d (enc s)), some (.d t), some (.d i), v5, none, none] [.zs N] = .nx [some (.scr ns), some (.hot 0), some (.d (enc s)), some (.d t'), some (.d i), v', none, none] [.zs N'] ∧ N ≤ N' ∧ N' ≤ N + bP d ∧ Wd (c + 5) (d + 2) t' := by
  obtain ⟨t', N', p1, p2, p3, p4⟩ := lspoilt_ok d (94 - d) ns t c N w (by omega) hN
  rw [show 94 - d + d + 6 = 100 by omega] at p1
  have w' : Wd 32 (d + 2) t' := p4.mono hc (Nat.le_refl _)
  have f1 := faults_ok 86 (d + 2) s t' [.zs N'] hs w'
  have f2 := lwr 100 88 (d + 2) s t' [.zs N'] hs w' rfl
  have f3 := of_ok 86 s t' [.zs N'] hs
  have e1 := eqD_fls (wr_fl 4 s t' [] (by simp))
  have e2 : (oneP 4 s t' == (wrP 4 s t' []).isEmpty) = true := by
    have := wr_nil 4 32 (d + 2) s t' [] hs w'
    rw [beq_iff_eq, Bool.eq_iff_iff, ← this, List.isEmpty_iff]
  refine ⟨t', N', some (.d (.lst (wrP 4 s t' []))), ?_, p2, p3, p4⟩
  have e3 : eqD (.bl (oneP 4 s t')) (.bl (wrP 4 s t' []).isEmpty) = some true := by rw [eqD_bl, e2]
  have e4 : eqD (.lst (wrP 4 s t' [])) (.lst []) = some (wrP 4 s t' []).isEmpty := eqD_nil
  simp only [ev_seq, ev_sasg, ev_own, ev_cons, ev_nil, ev_var, List.getElem?_cons_succ, List.getElem?_cons_zero, bind_ok, p1, onE_ok, then_nx, List.set_cons_succ, List.set_cons_zero, f1, ev_sif, ev_tor, ev_tst, ev_op, ev_tup, mk0, f2, op2_d, neO_e, eqO_e, e1, Option.map_some, ofO_some, toB_bl, Bool.not_true, ev_lst, f3, e4, e3, onT_ok, ev_snil, if_false, Bool.false_eq_true]
theorem flat1 {α β : Type} (f : α → β) : ∀ xs : List α, xs.flatMap (fun x => [f x]) = xs.map f
  | [] => rfl
  | x :: r => by rw [List.flatMap_cons, flat1 f r]; rfl
theorem wr_lack (n : Nat) (ps : List (Str × Sh)) : wrP (n + 1) (.rcd ps) (.dct []) [] = ps.map fun q => fl [.str q.1] "lacking" := by
  show ps.flatMap (recF (wrP n) [] []) ++ unkF ps [] [] = _
  have e1 : sortK [] = [] := List.Perm.eq_nil (sort_p [])
  have e2 : unkF ps [] [] = [] := by unfold unkF; rw [e1]; rfl
  have e3 : (recF (wrP n) [] []) = fun q : Str × Sh => [fl [.str q.1] "lacking"] := rfl
  rw [e2, e3, List.append_nil, flat1]
theorem enc_word (s : Sh) : (∃ ps, s = .rcd ps) ∨ ∃ w r, enc s = .tup (.str w :: r) ∧ (w == ("rec" : Str)) = false := by
  cases s with
  | rcd ps => exact .inl ⟨ps, rfl⟩
  | _ => exact .inr ⟨_, _, rfl, by simp⟩
theorem math (ns : List Int) (h : ns.length ≤ 63) : ∃ S, outF (m_law (sem 100) (some (.scr ns) :: some (.hot 0) :: List.replicate 6 none) [.zs 0]) = .ok (.bl true) S := by
  unfold m_law
  obtain ⟨x, n1, s1, s2, s3, s, rfl, hs⟩ := lshape_ok 4 89 ns 0 (by decide) (by decide) (by decide)
  have b4 : bS 4 = 8500 := by decide
  have b5 : bT 4 = 850 := by decide
  obtain ⟨t, n2, t1, t2, t3, t4, t5⟩ := lthing_ok 4 91 ns s n1 hs (by rw [b5]; omega)
  have f0 := faults_ok 86 4 s t [.zs n2] hs (t5.mono (by decide) (by decide))
  have f1 : wrP 4 s t [] = [] := (wr_nil 4 4 4 s t [] hs t5).mpr t4
  rw [f1] at f0
  have q0 : bP 4 = 100 := by decide
  have q1 : bP 6 = 140 := by decide
  have q2 : bP 8 = 180 := by decide
  obtain ⟨ta, na, va, a1, a2, a3, a4⟩ := turn_ok ns s t 4 4 n2 none none (.int (0 : Nat)) hs t5 (by decide) (by decide) (by omega)
  obtain ⟨tb, nb, vb, b1, b2, b3, b4'⟩ := turn_ok ns s ta 9 6 na (some (.d (.int (0 : Nat)))) va (.int (1 : Nat)) hs a4 (by decide) (by decide) (by omega)
  obtain ⟨tc, nc, vc, c1, c2, c3, c4⟩ := turn_ok ns s tb 14 8 nb (some (.d (.int (1 : Nat)))) vb (.int (2 : Nat)) hs b4' (by decide) (by decide) (by omega)
  have loop : forF (.n 4) (sSeq (sAsg 3 (eOwn (sem 100 "_law_spoilt") (aCons (eVar 0) (aCons (eVar 1) (aCons (eVar 3) aNil))))) (sSeq (sAsg 5 (eOwn (sem 100 "faults") (aCons (eVar 2) (aCons (eVar 3) aNil)))) (sIf (tOrF (tst (eOp neO (eVar 5) (eOwn (sem 100 "_law_wrong") (aCons (eVar 2) (aCons (eVar 3) (aCons (eTup aNil) aNil)))))) (tst (eOp neO (eOwn (sem 100 "is_of") (aCons (eVar 2) (aCons (eVar 3) aNil))) (eOp eqO (eVar 5) (eLst aNil))))) (sRet (eC (.bl false))) sNil)))
      (rangeD 0 3) [some (.scr ns), some (.hot 0), some (.d (enc s)), some (.d t), none, none, none, none] [.zs n2] = .nx [some (.scr ns), some (.hot 0), some (.d (enc s)), some (.d tc), some (.d (.int (2 : Nat))), vc, none, none] [.zs nc] := by
    have er : rangeD 0 3 = [.int (0 : Nat), .int (1 : Nat), .int (2 : Nat)] := by rw [range_D]; rfl
    rw [er]
    simp only [forF, bindT, List.set_cons_succ, List.set_cons_zero, a1, b1, c1]
  have hsem : ∀ k, sem (89 + 4 + 7) k = sem 100 k := fun _ => rfl
  have s1' : sem 100 "_law_shape" [.scr ns, .hot 0, .d (.int 4), .d (.bl true)] [.zs 0] = .ok (enc s) [.zs n1] := s1
  have t1' : sem 100 "_law_thing" [.scr ns, .hot 0, .d (enc s)] [.zs n1] = .ok t [.zs n2] := t1
  have f0' : sem 100 "faults" [.d (enc s), .d t] [.zs n2] = .ok (.lst []) [.zs n2] := f0
  have e0 : eqD (.lst []) (.lst []) = some true := eqD_nil
  have r3 : (-(2 ^ 30) ≤ (3 : Int) ∧ (3 : Int) ≤ ((sizeLine : Nat) : Int)) := by rw [sl_line]; decide
  have r3' : ((3 : Int)).toNat = 3 := rfl
  have rep : List.replicate 6 (none : Option A) = [none, none, none, none, none, none] := rfl
  rw [rep]
  simp only [ev_seq, ev_sasg, ev_own, ev_cons, ev_nil, ev_var, ev_c, List.getElem?_cons_succ, List.getElem?_cons_zero, bind_ok, s1', onE_ok, then_nx, List.set_cons_succ, List.set_cons_zero, t1', ev_sif, ev_tst, ev_op, ev_lst, mk0, f0', op2_d, neO_e, e0, Option.map_some, ofO_some, toB_bl, Bool.not_true, onT_ok, ev_snil, if_false, Bool.false_eq_true, ev_sfor, ev_rng1, if_pos r3, r3', onI_ok, loop]
  rcases enc_word s with ⟨ps, rfl⟩ | ⟨w, r, es, hw⟩
  · have f5 : sem 100 "faults" [.d (enc (.rcd ps)), .d (.dct [])] [.zs nc] = .ok (.lst (wrP 4 (.rcd ps) (.dct []) [])) [.zs nc] := faults_ok 86 1 (.rcd ps) (.dct (kd [])) [.zs nc] hs (.dct (by simp) (by simp) (by simp))
    have ew := wr_lack 3 ps
    have e6 : eqD (.lst (wrP 4 (.rcd ps) (.dct []) [])) (.lst (wrP 4 (.rcd ps) (.dct []) [])) = some true := eqD_fls (wr_fl 4 _ _ [] (by simp))
    have cmp : ∀ a1 a2 a3 a4 a5 a6 a7 a8, compF (.t [6, 7]) [6, 7] tYesF (eTup (aCons (eTup (aCons (eVar 6) aNil)) (aCons (eC (.str "lacking")) aNil))) [a1, a2, a3, a4, a5, a6, a7, a8] (encs ps) [.zs nc] = .ok (wrP 4 (.rcd ps) (.dct []) []) [.zs nc] := fun a1 a2 a3 a4 a5 a6 a7 a8 => by
      rw [ew, encs_map, cmp_overM (g := fun q => fl [.str q.1] "lacking")]
      intro q hq
      simp [turnF, bindT, wipeR, setAll, fl]
    have e7 : enc (.rcd ps) = .tup [.str "rec", .tup (encs ps)] := by simp [enc]
    refine ⟨[.zs nc], ?_⟩
    rw [e7] at f5 ⊢
    simp [f5, cmp, e6]
  · refine ⟨[.zs nc], ?_⟩
    rw [es]
    simp [hw]
end Law
namespace Law
open PySem L2 G
open PySem.W (Frag)
def h_is_whole : He.DefD := ⟨("is_whole", none), "is_whole", "is_whole", defArgs (top 11), defBody (top 11), defScope (top 11), [], []⟩
def h_is_word : He.DefD := ⟨("is_word", none), "is_word", "is_word", defArgs (top 12), defBody (top 12), defScope (top 12), [], []⟩
def h_are_words : He.DefD := ⟨("are_words", none), "are_words", "are_words", defArgs (top 13), defBody (top 13), defScope (top 13), [], []⟩
def h_is_shape : He.DefD := ⟨("is_shape", none), "is_shape", "is_shape", defArgs (top 14), defBody (top 14), defScope (top 14), [], []⟩
def h_are_parts : He.DefD := ⟨("are_parts", none), "are_parts", "are_parts", defArgs (top 15), defBody (top 15), defScope (top 15), [], []⟩
def h_look_shape : He.DefD := ⟨("look_shape", none), "look_shape", "look_shape", defArgs (top 16), defBody (top 16), defScope (top 16), [], []⟩
def h_is_of : He.DefD := ⟨("is_of", none), "is_of", "is_of", defArgs (top 17), defBody (top 17), defScope (top 17), [], []⟩
def h_is_one : He.DefD := ⟨("is_one", none), "is_one", "is_one", defArgs (top 18), defBody (top 18), defScope (top 18), [], []⟩
def h_is_of_kind : He.DefD := ⟨("is_of_kind", none), "is_of_kind", "is_of_kind", defArgs (top 19), defBody (top 19), defScope (top 19), [], []⟩
def h_part_of : He.DefD := ⟨("part_of", none), "part_of", "part_of", defArgs (top 20), defBody (top 20), defScope (top 20), [], []⟩
def h_faults : He.DefD := ⟨("faults", none), "faults", "faults", defArgs (top 22), defBody (top 22), defScope (top 22), [], []⟩
def h_wrong : He.DefD := ⟨("wrong", none), "wrong", "wrong", defArgs (top 23), defBody (top 23), defScope (top 23), [], []⟩
def h_wrong_list : He.DefD := ⟨("wrong_list", none), "wrong_list", "wrong_list", defArgs (top 24), defBody (top 24), defScope (top 24), [], []⟩
def h_wrong_kind : He.DefD := ⟨("wrong_kind", none), "wrong_kind", "wrong_kind", defArgs (top 25), defBody (top 25), defScope (top 25), [], []⟩
def h_wrong_rec : He.DefD := ⟨("wrong_rec", none), "wrong_rec", "wrong_rec", defArgs (top 26), defBody (top 26), defScope (top 26), [], []⟩
def h_law_cell : He.DefD := ⟨("_law_cell", none), "_law_cell", "_law_cell", defArgs (top 28), defBody (top 28), defScope (top 28), [], []⟩
def h_law_mix : He.DefD := ⟨("_law_mix", none), "_law_mix", "_law_mix", defArgs (top 29), defBody (top 29), defScope (top 29), [], []⟩
def h_law_draw : He.DefD := ⟨("_law_draw", none), "_law_draw", "_law_draw", defArgs (top 30), defBody (top 30), defScope (top 30), [], []⟩
def h_law_pick : He.DefD := ⟨("_law_pick", none), "_law_pick", "_law_pick", defArgs (top 31), defBody (top 31), defScope (top 31), [], []⟩
def h_law_word : He.DefD := ⟨("_law_word", none), "_law_word", "_law_word", defArgs (top 32), defBody (top 32), defScope (top 32), [], []⟩
def h_law_words : He.DefD := ⟨("_law_words", none), "_law_words", "_law_words", defArgs (top 33), defBody (top 33), defScope (top 33), [], []⟩
def h_law_shape : He.DefD := ⟨("_law_shape", none), "_law_shape", "_law_shape", defArgs (top 34), defBody (top 34), defScope (top 34), [], []⟩
def h_law_thing : He.DefD := ⟨("_law_thing", none), "_law_thing", "_law_thing", defArgs (top 35), defBody (top 35), defScope (top 35), [], []⟩
def h_law_same : He.DefD := ⟨("_law_same", none), "_law_same", "_law_same", defArgs (top 36), defBody (top 36), defScope (top 36), [], []⟩
def h_law_part : He.DefD := ⟨("_law_part", none), "_law_part", "_law_part", defArgs (top 37), defBody (top 37), defScope (top 37), [], []⟩
def h_law_wrong : He.DefD := ⟨("_law_wrong", none), "_law_wrong", "_law_wrong", defArgs (top 38), defBody (top 38), defScope (top 38), [], []⟩
def h_law_plain : He.DefD := ⟨("_law_plain", none), "_law_plain", "_law_plain", defArgs (top 39), defBody (top 39), defScope (top 39), [], []⟩
def h_law_spoilt : He.DefD := ⟨("_law_spoilt", none), "_law_spoilt", "_law_spoilt", defArgs (top 40), defBody (top 40), defScope (top 40), [], []⟩
def h_law : He.DefD := ⟨("law", none), "law", "law", defArgs (top 41), defBody (top 41), defScope (top 41), [], []⟩
def fn : List He.DefD := [h_is_whole, h_is_word, h_are_words, h_is_shape, h_are_parts, h_look_shape, h_is_of, h_is_one, h_is_of_kind, h_part_of, h_faults, h_wrong, h_wrong_list, h_wrong_kind, h_wrong_rec, h_law_cell, h_law_mix, h_law_draw, h_law_pick, h_law_word, h_law_words, h_law_shape, h_law_thing, h_law_same, h_law_part, h_law_wrong, h_law_plain, h_law_spoilt, h_law]
def fa0 : List He.Fa := [.glo "is_whole", .glo "is_word", .glo "are_words", .glo "is_shape", .glo "are_parts", .glo "look_shape", .glo "is_of", .glo "is_one", .glo "is_of_kind", .glo "part_of", .glo "faults", .glo "wrong", .glo "wrong_list", .glo "wrong_kind", .glo "wrong_rec", .glo "_law_cell"]
def fa1 : List He.Fa := [.glo "_law_mix", .glo "_law_draw", .glo "_law_pick", .glo "_law_word", .glo "_law_words", .glo "_law_shape", .glo "_law_thing", .glo "_law_same", .glo "_law_part", .glo "_law_wrong", .glo "_law_plain", .glo "_law_spoilt", .glo "law", .glo "SIZES", .glo "BadShape", .exc "BadShape"]
def fa2 : List He.Fa := [.int "MOST_WORD" 8, .int "MOST_PARTS" 4, .int "MOST_DEEP" 4, .int "FAR" 1000000, .str "SMALL" "abcdefghijklmnopqrstuvwxyz", .str "LETTERS" "abc", .free "all", .free "any", .free "bool", .free "dict", .free "int", .free "isinstance", .free "len", .free "list", .free "range", .free "set"]
def fa3 : List He.Fa := [.free "sorted", .free "str", .free "tuple"]
def fa : List He.Fa := fa0 ++ fa1 ++ fa2 ++ fa3
def tbs : List He.Tab := [(fun K => He.ga K "SIZES", ["number", "truth", "word", "text", "list", "rec", "kind", "maybe"])]
def exq (K : Frag) : Bool := tabB "SIZES" tab_SIZES K
abbrev R : PySem.W.OpenRow := PySem.W.OpenLaw.row PySem.Challenge.rw_shapeleads_k21_whole_faults
abbrev hk : PySem.W.Hook := He.hookX 5 fa fn tbs [] exq
def ob (s : PySem.W.SharedT) : He.AlX := He.obsX 5 fa fn tbs [] exq (HandSHeadRun.getT s)
theorem ob_eq (s : PySem.W.SharedT) : ob s = hk.obs s.abs := He.obsX_eq (HandSHeadRun.getT_eq s)
def loose0 : List PySem.Str := ["LeadError", "BadShape", "SMALL", "LETTERS", "MOST_WORD", "MOST_PARTS", "MOST_DEEP", "FAR", "SIZES", "is_whole", "is_word", "are_words", "is_shape", "are_parts", "look_shape", "is_of"]
def loose1 : List PySem.Str := ["is_one", "is_of_kind", "part_of", "faults", "wrong", "wrong_list", "wrong_kind", "wrong_rec", "_law_cell", "_law_mix", "_law_draw", "_law_pick", "_law_word", "_law_words", "_law_shape", "_law_thing"]
def loose2 : List PySem.Str := ["_law_same", "_law_part", "_law_wrong", "_law_plain", "_law_spoilt"]
def loose : List PySem.Str := loose0 ++ loose1 ++ loose2
theorem run (w : World) : HandSHeadRun.RunEq R (PySem.W.view R.prog [41]) hk ob 4000 loose w :=
  PySem.W.byRow2 "special-get-raises" (P := fun w => HandSHeadRun.RunEq R (PySem.W.view R.prog [41]) hk ob 4000 loose w) (fun w => by intro os; kernel_rfl) (fun w => by intro os; kernel_rfl) w
theorem facts_of {w : World} {K : Frag} {h : Heap} {mg : Str → Option Value} (X : K.In h) (Gn : h.Ns mainGlobals mg) (c : He.SaysX fa fn tbs [] exq w h K) : Facts w K mg where
  d_is_whole := by
    obtain ⟨fd, F⟩ := c.t.d.def_ 0 (d := h_is_whole) rfl
    exact ⟨_, fd, F, He.glo_ok X Gn (c.t.d.fact 0 (f := .glo "is_whole") rfl), FunD.bindsN F fun _ _ _ _ _ _ us hl => match us, hl with | [_, _, _], _ => rfl⟩
  d_is_word := by
    obtain ⟨fd, F⟩ := c.t.d.def_ 1 (d := h_is_word) rfl
    exact ⟨_, fd, F, He.glo_ok X Gn (c.t.d.fact 1 (f := .glo "is_word") rfl), FunD.bindsN F fun _ _ _ _ _ _ us hl => match us, hl with | [_], _ => rfl⟩
  d_are_words := by
    obtain ⟨fd, F⟩ := c.t.d.def_ 2 (d := h_are_words) rfl
    exact ⟨_, fd, F, He.glo_ok X Gn (c.t.d.fact 2 (f := .glo "are_words") rfl), FunD.bindsN F fun _ _ _ _ _ _ us hl => match us, hl with | [_, _], _ => rfl⟩
  d_is_shape := by
    obtain ⟨fd, F⟩ := c.t.d.def_ 3 (d := h_is_shape) rfl
    exact ⟨_, fd, F, He.glo_ok X Gn (c.t.d.fact 3 (f := .glo "is_shape") rfl), FunD.bindsN F fun _ _ _ _ _ _ us hl => match us, hl with | [_, _], _ => rfl⟩
  d_are_parts := by
    obtain ⟨fd, F⟩ := c.t.d.def_ 4 (d := h_are_parts) rfl
    exact ⟨_, fd, F, He.glo_ok X Gn (c.t.d.fact 4 (f := .glo "are_parts") rfl), FunD.bindsN F fun _ _ _ _ _ _ us hl => match us, hl with | [_, _, _], _ => rfl⟩
  d_look_shape := by
    obtain ⟨fd, F⟩ := c.t.d.def_ 5 (d := h_look_shape) rfl
    exact ⟨_, fd, F, He.glo_ok X Gn (c.t.d.fact 5 (f := .glo "look_shape") rfl), FunD.bindsN F fun _ _ _ _ _ _ us hl => match us, hl with | [_], _ => rfl⟩
  d_is_of := by
    obtain ⟨fd, F⟩ := c.t.d.def_ 6 (d := h_is_of) rfl
    exact ⟨_, fd, F, He.glo_ok X Gn (c.t.d.fact 6 (f := .glo "is_of") rfl), FunD.bindsN F fun _ _ _ _ _ _ us hl => match us, hl with | [_, _], _ => rfl⟩
  d_is_one := by
    obtain ⟨fd, F⟩ := c.t.d.def_ 7 (d := h_is_one) rfl
    exact ⟨_, fd, F, He.glo_ok X Gn (c.t.d.fact 7 (f := .glo "is_one") rfl), FunD.bindsN F fun _ _ _ _ _ _ us hl => match us, hl with | [_, _], _ => rfl⟩
  d_is_of_kind := by
    obtain ⟨fd, F⟩ := c.t.d.def_ 8 (d := h_is_of_kind) rfl
    exact ⟨_, fd, F, He.glo_ok X Gn (c.t.d.fact 8 (f := .glo "is_of_kind") rfl), FunD.bindsN F fun _ _ _ _ _ _ us hl => match us, hl with | [_, _], _ => rfl⟩
  d_part_of := by
    obtain ⟨fd, F⟩ := c.t.d.def_ 9 (d := h_part_of) rfl
    exact ⟨_, fd, F, He.glo_ok X Gn (c.t.d.fact 9 (f := .glo "part_of") rfl), FunD.bindsN F fun _ _ _ _ _ _ us hl => match us, hl with | [_, _], _ => rfl⟩
  d_faults := by
    obtain ⟨fd, F⟩ := c.t.d.def_ 10 (d := h_faults) rfl
    exact ⟨_, fd, F, He.glo_ok X Gn (c.t.d.fact 10 (f := .glo "faults") rfl), FunD.bindsN F fun _ _ _ _ _ _ us hl => match us, hl with | [_, _], _ => rfl⟩
  d_wrong := by
    obtain ⟨fd, F⟩ := c.t.d.def_ 11 (d := h_wrong) rfl
    exact ⟨_, fd, F, He.glo_ok X Gn (c.t.d.fact 11 (f := .glo "wrong") rfl), FunD.bindsN F fun _ _ _ _ _ _ us hl => match us, hl with | [_, _, _], _ => rfl⟩
  d_wrong_list := by
    obtain ⟨fd, F⟩ := c.t.d.def_ 12 (d := h_wrong_list) rfl
    exact ⟨_, fd, F, He.glo_ok X Gn (c.t.d.fact 12 (f := .glo "wrong_list") rfl), FunD.bindsN F fun _ _ _ _ _ _ us hl => match us, hl with | [_, _, _], _ => rfl⟩
  d_wrong_kind := by
    obtain ⟨fd, F⟩ := c.t.d.def_ 13 (d := h_wrong_kind) rfl
    exact ⟨_, fd, F, He.glo_ok X Gn (c.t.d.fact 13 (f := .glo "wrong_kind") rfl), FunD.bindsN F fun _ _ _ _ _ _ us hl => match us, hl with | [_, _, _], _ => rfl⟩
  d_wrong_rec := by
    obtain ⟨fd, F⟩ := c.t.d.def_ 14 (d := h_wrong_rec) rfl
    exact ⟨_, fd, F, He.glo_ok X Gn (c.t.d.fact 14 (f := .glo "wrong_rec") rfl), FunD.bindsN F fun _ _ _ _ _ _ us hl => match us, hl with | [_, _, _], _ => rfl⟩
  d_law_cell := by
    obtain ⟨fd, F⟩ := c.t.d.def_ 15 (d := h_law_cell) rfl
    exact ⟨_, fd, F, He.glo_ok X Gn (c.t.d.fact 15 (f := .glo "_law_cell") rfl), FunD.bindsN F fun _ _ _ _ _ _ us hl => match us, hl with | [_, _], _ => rfl⟩
  d_law_mix := by
    obtain ⟨fd, F⟩ := c.t.d.def_ 16 (d := h_law_mix) rfl
    exact ⟨_, fd, F, He.glo_ok X Gn (c.t.d.fact 16 (f := .glo "_law_mix") rfl), FunD.bindsN F fun _ _ _ _ _ _ us hl => match us, hl with | [_, _], _ => rfl⟩
  d_law_draw := by
    obtain ⟨fd, F⟩ := c.t.d.def_ 17 (d := h_law_draw) rfl
    exact ⟨_, fd, F, He.glo_ok X Gn (c.t.d.fact 17 (f := .glo "_law_draw") rfl), FunD.bindsN F fun _ _ _ _ _ _ us hl => match us, hl with | [_, _, _], _ => rfl⟩
  d_law_pick := by
    obtain ⟨fd, F⟩ := c.t.d.def_ 18 (d := h_law_pick) rfl
    exact ⟨_, fd, F, He.glo_ok X Gn (c.t.d.fact 18 (f := .glo "_law_pick") rfl), FunD.bindsN F fun _ _ _ _ _ _ us hl => match us, hl with | [_, _, _], _ => rfl⟩
  d_law_word := by
    obtain ⟨fd, F⟩ := c.t.d.def_ 19 (d := h_law_word) rfl
    exact ⟨_, fd, F, He.glo_ok X Gn (c.t.d.fact 19 (f := .glo "_law_word") rfl), FunD.bindsN F fun _ _ _ _ _ _ us hl => match us, hl with | [_, _], _ => rfl⟩
  d_law_words := by
    obtain ⟨fd, F⟩ := c.t.d.def_ 20 (d := h_law_words) rfl
    exact ⟨_, fd, F, He.glo_ok X Gn (c.t.d.fact 20 (f := .glo "_law_words") rfl), FunD.bindsN F fun _ _ _ _ _ _ us hl => match us, hl with | [_, _, _], _ => rfl⟩
  d_law_shape := by
    obtain ⟨fd, F⟩ := c.t.d.def_ 21 (d := h_law_shape) rfl
    exact ⟨_, fd, F, He.glo_ok X Gn (c.t.d.fact 21 (f := .glo "_law_shape") rfl), FunD.bindsN F fun _ _ _ _ _ _ us hl => match us, hl with | [_, _, _, _], _ => rfl⟩
  d_law_thing := by
    obtain ⟨fd, F⟩ := c.t.d.def_ 22 (d := h_law_thing) rfl
    exact ⟨_, fd, F, He.glo_ok X Gn (c.t.d.fact 22 (f := .glo "_law_thing") rfl), FunD.bindsN F fun _ _ _ _ _ _ us hl => match us, hl with | [_, _, _], _ => rfl⟩
  d_law_same := by
    obtain ⟨fd, F⟩ := c.t.d.def_ 23 (d := h_law_same) rfl
    exact ⟨_, fd, F, He.glo_ok X Gn (c.t.d.fact 23 (f := .glo "_law_same") rfl), FunD.bindsN F fun _ _ _ _ _ _ us hl => match us, hl with | [_, _], _ => rfl⟩
  d_law_part := by
    obtain ⟨fd, F⟩ := c.t.d.def_ 24 (d := h_law_part) rfl
    exact ⟨_, fd, F, He.glo_ok X Gn (c.t.d.fact 24 (f := .glo "_law_part") rfl), FunD.bindsN F fun _ _ _ _ _ _ us hl => match us, hl with | [_, _], _ => rfl⟩
  d_law_wrong := by
    obtain ⟨fd, F⟩ := c.t.d.def_ 25 (d := h_law_wrong) rfl
    exact ⟨_, fd, F, He.glo_ok X Gn (c.t.d.fact 25 (f := .glo "_law_wrong") rfl), FunD.bindsN F fun _ _ _ _ _ _ us hl => match us, hl with | [_, _, _], _ => rfl⟩
  d_law_plain := by
    obtain ⟨fd, F⟩ := c.t.d.def_ 26 (d := h_law_plain) rfl
    exact ⟨_, fd, F, He.glo_ok X Gn (c.t.d.fact 26 (f := .glo "_law_plain") rfl), FunD.bindsN F fun _ _ _ _ _ _ us hl => match us, hl with | [_, _, _], _ => rfl⟩
  d_law_spoilt := by
    obtain ⟨fd, F⟩ := c.t.d.def_ 27 (d := h_law_spoilt) rfl
    exact ⟨_, fd, F, He.glo_ok X Gn (c.t.d.fact 27 (f := .glo "_law_spoilt") rfl), FunD.bindsN F fun _ _ _ _ _ _ us hl => match us, hl with | [_, _, _], _ => rfl⟩
  c_MOST_WORD := He.int_ok X Gn (c.t.d.fact 32 (f := .int "MOST_WORD" 8) rfl)
  c_MOST_PARTS := He.int_ok X Gn (c.t.d.fact 33 (f := .int "MOST_PARTS" 4) rfl)
  c_MOST_DEEP := He.int_ok X Gn (c.t.d.fact 34 (f := .int "MOST_DEEP" 4) rfl)
  c_FAR := He.int_ok X Gn (c.t.d.fact 35 (f := .int "FAR" 1000000) rfl)
  c_SMALL := He.str_ok X Gn (c.t.d.fact 36 (f := .str "SMALL" "abcdefghijklmnopqrstuvwxyz") rfl)
  c_LETTERS := He.str_ok X Gn (c.t.d.fact 37 (f := .str "LETTERS" "abc") rfl)
  t_SIZES := ⟨tabl_of (c.t.tab 0 (t := (fun K => He.ga K "SIZES", ["number", "truth", "word", "text", "list", "rec", "kind", "maybe"])) rfl) c.more, He.glo_ok X Gn (c.t.d.fact 29 (f := .glo "SIZES") rfl)⟩
  x_BadShape := exc_of X Gn (c.t.d.fact 31 (f := .exc "BadShape") rfl) (c.t.d.fact 30 (f := .glo "BadShape") rfl)
  n_all := He.free_ok X Gn (c.t.d.fact 38 (f := .free "all") rfl)
  n_any := He.free_ok X Gn (c.t.d.fact 39 (f := .free "any") rfl)
  n_bool := He.free_ok X Gn (c.t.d.fact 40 (f := .free "bool") rfl)
  n_dict := He.free_ok X Gn (c.t.d.fact 41 (f := .free "dict") rfl)
  n_int := He.free_ok X Gn (c.t.d.fact 42 (f := .free "int") rfl)
  n_isinstance := He.free_ok X Gn (c.t.d.fact 43 (f := .free "isinstance") rfl)
  n_len := He.free_ok X Gn (c.t.d.fact 44 (f := .free "len") rfl)
  n_list := He.free_ok X Gn (c.t.d.fact 45 (f := .free "list") rfl)
  n_range := He.free_ok X Gn (c.t.d.fact 46 (f := .free "range") rfl)
  n_set := He.free_ok X Gn (c.t.d.fact 47 (f := .free "set") rfl)
  n_sorted := He.free_ok X Gn (c.t.d.fact 48 (f := .free "sorted") rfl)
  n_str := He.free_ok X Gn (c.t.d.fact 49 (f := .free "str") rfl)
  n_tuple := He.free_ok X Gn (c.t.d.fact 50 (f := .free "tuple") rfl)
theorem law_ok {w : World} {K : Frag} {h : Heap} {mg : Str → Option Value} {f : Addr} (X : K.In h) (Gn : h.Ns mainGlobals mg) (c : He.SaysX fa fn tbs [] exq w h K) (hf : mg ("law" : Str) = some (.ref f)) :
    ∃ fd : FuncData, (∀ (s : Shared) (v : Value), BindsTo s fd ⟨[v], []⟩ [("script", v)]) ∧ ∀ base : Heap, FnOk Pg w K mg base CX1 101 f fd ["script"] (spLaw K) := by
  obtain ⟨fd, F⟩ := c.t.d.def_ 28 (d := h_law) rfl
  have e := hf.symm.trans (He.glo_ok X Gn (c.t.d.fact 28 (f := .glo "law") rfl))
  cases e
  have b := FunD.bindsA (ps := ["script"]) F fun _ _ _ _ _ _ us hl => match us, hl with | [_], _ => rfl
  exact ⟨fd, fun s v => b s [v] rfl, fun base => fn_cx1 (law_G (st := top 41) (m := 6) F sc_law rfl rfl (by first | exact .inl rfl | exact .inr rfl) rfl (fun _ _ _ _ _ _ _ => rfl) (w_law (facts_of X Gn c) (all_ok (facts_of X Gn c) 100)) math)⟩
end Law
open PySem PySem.W PySem.Calls PyProof.Rows
theorem PySem.Challenge.cw_shapeleads_k21_whole_faults_holds : PySem.Challenge.rw_shapeleads_k21_whole_faults.Holds := by
  w_on; o_law
  refine HandSHeadRun.head_any (r := OpenLaw.row PySem.Challenge.rw_shapeleads_k21_whole_faults) (q := view (OpenLaw.row PySem.Challenge.rw_shapeleads_k21_whole_faults).prog [41]) (H := Law.hk) (ob := Law.ob) (M := 4000) (loose := Law.loose) (d := HandSHeadRun.topDef (OpenLaw.row PySem.Challenge.rw_shapeleads_k21_whole_faults).prog 41) (kwd := []) Law.ob_eq
    (by kernel_rfl) (fun s => by kernel_rfl) Law.run (by kernel_rfl) (by kernel_rfl) (by kernel_rfl) (by rfl) (by first | assumption | decide +kernel) (by decide +kernel) ⟨rfl, rfl, rfl, rfl, rfl, by decide +kernel⟩ ?hw ?hc
  case hw => w_witness2
  case hc =>
    refine L2.walk_ofE (l := PySem.Challenge.rw_shapeleads_k21_whole_faults) (n := 63) (k := 101) (x := "script") (CX := _root_.G.CX1) rfl (by decide) (by kernel_rfl) ⟨rfl, by decide, by decide⟩ ?F (fun _ _ _ _ z => _root_.G.cx1_no z)
    intro w mg fa h Y G hmg0
    obtain ⟨K, KX, c⟩ := Y
    have hmg : mg ("law" : PySem.Str) = some (.ref fa) := by
      have e : (HandSHeadRun.topDef (OpenLaw.row PySem.Challenge.rw_shapeleads_k21_whole_faults).prog 41).name = ("law" : PySem.Str) := by kernel_rfl
      rw [← e]
      exact hmg0
    obtain ⟨fd, hb, hF⟩ := Law.law_ok (w := w) KX G c hmg
    exact ⟨K, fd, _, KX, hb, fun H a ns hl _ hS => ⟨a, ns, rfl, hS, hl, fun _ => rfl⟩, fun base _ _ => hF base⟩
