import PyProof.Rows.All
import Wide.All
import OpenK.AllK
import Wide.FinOn
import Open.SpecLaws
import KE.OsGo
import HandS.ForMost
import HandS.ForExc
import HandS.Walk
import HandS.Slots
import HandS.WordsExc
import HandS.TupAny
import HandS.Zip
import HandS.IsInst
import HandS.Flow
import HandS.Wide
import HandS.ReplaceList
import HandS.Deep
import HandS.Style
import HandS.ExcInit
import HandS.ExcField
import HandS.ExcIs
import HandS.ExcValue
import HandS.Replace
import HandS.Ends
import PySem.Challenge.RW_porterhands_k02_wrong_texts_of_runs
set_option Elab.async false
set_option linter.all false
set_option maxRecDepth 100000
set_option maxHeartbeats 4000000
/-! PM, part a: plain data, what of it lies in the abstract heap, the frame, the judgement. -/
namespace PM
open PySem PySem.Spec PyProof.Rows L2

inductive D where
  | un | non | bl (b : Bool) | int (i : Int) | str (s : List Nat)
  | tup (xs : List D) | lst (xs : List D) | scr (ns : List Int) | dct (ks vs : List D)
  | ins (c : Nat) (fs : List D) | exc (c : Nat) (fs : List D)

structure Cfg where
  K : PySem.W.Frag
  cls : Nat → Addr
  xf : Nat → List Str

def tx (l : List Nat) : Str := ⟨l.toArray⟩
theorem tx_cps (l : List Nat) : (tx l).cps.toList = l := by simp [tx]
theorem tx_of (x : Str) : tx x.cps.toList = x := by cases x; simp [tx]
theorem tx_len (l : List Nat) : (tx l).length = l.length := by simp [tx, Str.length]
theorem tx_inj {l m : List Nat} (h : tx l = tx m) : l = m := by rw [← tx_cps l, h, tx_cps]

def Ex (H H' : Hp) : Prop := ∀ a o, H a = some o → H' a = some o
theorem Ex.refl (H : Hp) : Ex H H := fun _ _ h => h
theorem Ex.trans {H H1 H2 : Hp} (a : Ex H H1) (b : Ex H1 H2) : Ex H H2 := fun x o h => b x o (a x o h)
theorem Ex.new {H : Hp} {p : Addr} {o : HO} (h : H p = none) : Ex H (upd H p o) := fun a u e => by
  rw [upd_ne (ne_of_none e h)]; exact e
theorem upd_ex {H S : Hp} {p : Addr} {o : HO} (h : Ex S H) : Ex (upd S p o) (upd H p o) := fun a u e => by
  by_cases q : a = p
  · subst q; rw [upd_same] at e ⊢; exact e
  · rw [upd_ne q] at e ⊢; exact h a u e

/-- a caught exception, as a value -/
def ExT (cls : Value) (d : Option Addr) (a : Addr) : HO := .ext fun h => ∃ (oe : Obj) (vs : Array Value), h.get? a = some oe ∧ Zc cls d oe ∧ oe.data = .fields vs

def kD : Key → D
  | .inl i => .int i
  | .inr x => .str x.cps.toList
def kTD (k : List Key) : D := .tup (k.map kD)
/-- a dict of these keys and values at a -/
def DcR (H : Hp) (a : Addr) (ks : List D) (vs : List V) : Prop :=
  (∃ kk : List Key, ks = kk.map kD ∧ kk.length = vs.length ∧ H a = some (.dK (kk.zip vs))) ∨ (∃ kk : List (List Key), ks = kk.map kTD ∧ kk.length = vs.length ∧ H a = some (.dT (kk.zip vs)))
theorem DcR.mono {H H' : Hp} {a : Addr} {ks : List D} {vs : List V} (h : DcR H a ks vs) (e : H' a = H a) : DcR H' a ks vs := by
  rcases h with ⟨kk, h1, h2, h3⟩ | ⟨kk, h1, h2, h3⟩
  · exact .inl ⟨kk, h1, h2, e.trans h3⟩
  · exact .inr ⟨kk, h1, h2, e.trans h3⟩
theorem DcR.ex {H H' : Hp} {a : Addr} {ks : List D} {vs : List V} (h : DcR H a ks vs) (e : Ex H H') : DcR H' a ks vs := by
  rcases h with ⟨kk, h1, h2, h3⟩ | ⟨kk, h1, h2, h3⟩
  · exact .inl ⟨kk, h1, h2, e _ _ h3⟩
  · exact .inr ⟨kk, h1, h2, e _ _ h3⟩

def isUn : D → Bool
  | .un => true
  | _ => false

section
variable (Γ : Cfg) (S : Hp)
mutual
def Rep : D → V → Prop
  | .un, _ => False
  | .non, v => v = .non
  | .bl b, v => v = .bl b
  | .int i, v => v = .int i
  | .str s, v => v = .str (tx s)
  | .tup ds, v => ∃ a vs, v = .ref a ∧ S a = some (.tup vs) ∧ Reps ds vs
  | .lst ds, v => ∃ a vs, v = .ref a ∧ S a = some (.lst vs) ∧ Reps ds vs
  | .scr ns, v => ∃ a, v = .ref a ∧ SqL Γ.K S a (ns.map V.int)
  | .dct ks ws, v => ∃ a vs, v = .ref a ∧ DcR S a ks vs ∧ Reps ws vs
  | .ins c fs, v => ∃ a dx vs, v = .ref a ∧ SlX.Slt S a (Γ.cls c) dx vs ∧ RepF fs vs
  | .exc c fs, v => ∃ a d vs, v = .ref a ∧ S a = some (ExT (.ref (Γ.cls c)) (some d) a) ∧ S d = some (.xd ((Γ.xf c).zip vs)) ∧ Reps fs vs
def Reps : List D → List V → Prop
  | [], vs => vs = []
  | d :: ds, vs => ∃ v r, vs = v :: r ∧ Rep d v ∧ Reps ds r
def RepF : List D → List (Option V) → Prop
  | [], _ => True
  | d :: ds, vs => (isUn d = true ∨ ∃ v, vs.head? = some (some v) ∧ Rep d v) ∧ RepF ds vs.tail
end
end
theorem slt_ex {S S' : Hp} {a C dx : Addr} {vs : List (Option V)} (e : Ex S S') (h : SlX.Slt S a C dx vs) : SlX.Slt S' a C dx vs := by
  rcases h with ⟨h1, h2⟩ | ⟨h1, h2⟩
  · exact .inl ⟨e _ _ h1, h2⟩
  · exact .inr ⟨e _ _ h1, e _ _ h2⟩
theorem sql_ex {K : PySem.W.Frag} {S S' : Hp} {a : Addr} {vs : List V} (e : Ex S S') (h : SqL K S a vs) : SqL K S' a vs := by
  rcases h with (h | ⟨o, h⟩) | h
  · exact .inl (.inl (e _ _ h))
  · exact .inl (.inr ⟨o, e _ _ h⟩)
  · exact .inr h
section
variable {Γ : Cfg} {S S' : Hp}
mutual
theorem Rep.ex (e : Ex S S') : ∀ (d : D) (v : V), Rep Γ S d v → Rep Γ S' d v
  | .un, _, h => h
  | .non, _, h => h
  | .bl _, _, h => h
  | .int _, _, h => h
  | .str _, _, h => h
  | .tup ds, _, ⟨a, vs, h1, h2, h3⟩ => ⟨a, vs, h1, e _ _ h2, Reps.ex e ds vs h3⟩
  | .lst ds, _, ⟨a, vs, h1, h2, h3⟩ => ⟨a, vs, h1, e _ _ h2, Reps.ex e ds vs h3⟩
  | .scr _, _, ⟨a, h1, h2⟩ => ⟨a, h1, sql_ex e h2⟩
  | .dct _ ws, _, ⟨a, vs, h1, h2, h3⟩ => ⟨a, vs, h1, h2.ex e, Reps.ex e ws vs h3⟩
  | .ins _ fs, _, ⟨a, dx, vs, h1, h2, h3⟩ => ⟨a, dx, vs, h1, slt_ex e h2, RepF.ex e fs vs h3⟩
  | .exc _ fs, _, ⟨a, d, vs, h1, h2, h3, h4⟩ => ⟨a, d, vs, h1, e _ _ h2, e _ _ h3, Reps.ex e fs vs h4⟩
theorem Reps.ex (e : Ex S S') : ∀ (ds : List D) (vs : List V), Reps Γ S ds vs → Reps Γ S' ds vs
  | [], _, h => h
  | d :: ds, _, ⟨v, r, h1, h2, h3⟩ => ⟨v, r, h1, Rep.ex e d v h2, Reps.ex e ds r h3⟩
theorem RepF.ex (e : Ex S S') : ∀ (ds : List D) (vs : List (Option V)), RepF Γ S ds vs → RepF Γ S' ds vs
  | [], _, h => h
  | d :: ds, vs, ⟨h1, h2⟩ => ⟨h1.imp id fun ⟨v, q1, q2⟩ => ⟨v, q1, Rep.ex e d v q2⟩, RepF.ex e ds vs.tail h2⟩
end
theorem Reps.nil : Reps Γ S [] [] := rfl
theorem Reps.cons {d : D} {v : V} {ds : List D} {vs : List V} (h : Rep Γ S d v) (r : Reps Γ S ds vs) : Reps Γ S (d :: ds) (v :: vs) := ⟨v, vs, rfl, h, r⟩
theorem Reps.cons_iff {d : D} {v : V} {ds : List D} {vs : List V} : Reps Γ S (d :: ds) (v :: vs) ↔ Rep Γ S d v ∧ Reps Γ S ds vs := by
  constructor
  · rintro ⟨v', r, e, h1, h2⟩
    cases e
    exact ⟨h1, h2⟩
  · exact fun h => .cons h.1 h.2
theorem Reps.length : ∀ {ds : List D} {vs : List V}, Reps Γ S ds vs → vs.length = ds.length
  | [], _, h => by cases h; rfl
  | d :: ds, _, ⟨v, r, h1, _, h3⟩ => by cases h1; simp [Reps.length h3]
theorem Reps.get : ∀ {ds : List D} {vs : List V} {i : Nat} {d : D}, Reps Γ S ds vs → ds[i]? = some d → ∃ v, vs[i]? = some v ∧ Rep Γ S d v
  | [], _, _, _, _, e => by cases e
  | d :: ds, _, 0, _, ⟨v, r, h1, h2, _⟩, e => by cases h1; simp at e; subst e; exact ⟨v, rfl, h2⟩
  | d :: ds, _, i + 1, _, ⟨v, r, h1, _, h3⟩, e => by
    cases h1
    obtain ⟨w, q1, q2⟩ := Reps.get (i := i) h3 (by simpa using e)
    exact ⟨w, by simpa using q1, q2⟩
theorem Reps.get' {ds : List D} {vs : List V} {i : Nat} {v : V} (h : Reps Γ S ds vs) (e : vs[i]? = some v) : ∃ d, ds[i]? = some d ∧ Rep Γ S d v := by
  have hl : i < ds.length := by rw [← h.length]; exact (List.getElem?_eq_some_iff.mp e).1
  obtain ⟨w, q1, q2⟩ := h.get (i := i) (List.getElem?_eq_getElem hl)
  rw [e] at q1
  cases q1
  exact ⟨ds[i], List.getElem?_eq_getElem hl, q2⟩
theorem Reps.append : ∀ {ds es : List D} {vs us : List V}, Reps Γ S ds vs → Reps Γ S es us → Reps Γ S (ds ++ es) (vs ++ us)
  | [], _, _, _, h, q => by cases h; exact q
  | _ :: _, _, _, _, ⟨v, r, h1, h2, h3⟩, q => by cases h1; exact .cons h2 (Reps.append h3 q)
theorem Reps.take : ∀ {ds : List D} {vs : List V} (n : Nat), Reps Γ S ds vs → Reps Γ S (ds.take n) (vs.take n)
  | _, _, 0, _ => rfl
  | [], _, _ + 1, h => by cases h; rfl
  | _ :: _, _, n + 1, ⟨v, r, h1, h2, h3⟩ => by cases h1; exact .cons h2 (Reps.take n h3)
theorem Reps.drop : ∀ {ds : List D} {vs : List V} (n : Nat), Reps Γ S ds vs → Reps Γ S (ds.drop n) (vs.drop n)
  | _, _, 0, h => h
  | [], _, _ + 1, h => by cases h; rfl
  | _ :: _, _, n + 1, ⟨v, r, h1, h2, h3⟩ => by cases h1; exact Reps.drop n h3
theorem Reps.set : ∀ {ds : List D} {vs : List V} {d : D} {v : V} (i : Nat), Reps Γ S ds vs → Rep Γ S d v → Reps Γ S (ds.set i d) (vs.set i v)
  | [], _, _, _, _, h, _ => by cases h; rfl
  | _ :: _, _, _, _, 0, ⟨v, r, h1, h2, h3⟩, q => by cases h1; exact .cons q h3
  | _ :: _, _, _, _, i + 1, ⟨v, r, h1, h2, h3⟩, q => by cases h1; exact .cons h2 (Reps.set i h3 q)
theorem Reps.erase : ∀ {ds : List D} {vs : List V} (i : Nat), Reps Γ S ds vs → Reps Γ S (ds.eraseIdx i) (vs.eraseIdx i)
  | [], _, _, h => by cases h; rfl
  | _ :: _, _, 0, ⟨v, r, h1, h2, h3⟩ => by cases h1; exact h3
  | _ :: _, _, i + 1, ⟨v, r, h1, h2, h3⟩ => by cases h1; exact .cons h2 (Reps.erase i h3)
theorem Reps.rev : ∀ {ds : List D} {vs : List V}, Reps Γ S ds vs → Reps Γ S ds.reverse vs.reverse
  | [], _, h => by cases h; rfl
  | d :: ds, _, ⟨v, r, h1, h2, h3⟩ => by
    cases h1
    rw [List.reverse_cons, List.reverse_cons]
    exact (Reps.rev h3).append (.cons h2 rfl)
theorem Reps.ints : ∀ {ns : List Int} {vs : List V}, Reps Γ S (ns.map D.int) vs → vs = ns.map V.int
  | [], _, h => h
  | n :: ns, _, ⟨v, r, h1, h2, h3⟩ => by
    cases h1
    have e : v = V.int n := h2
    rw [e, Reps.ints h3]; rfl
theorem Reps.of_ints : ∀ (ns : List Int), Reps Γ S (ns.map D.int) (ns.map V.int)
  | [] => rfl
  | n :: ns => .cons (show V.int n = V.int n from rfl) (Reps.of_ints ns)
theorem Reps.bls : ∀ {ns : List Bool} {vs : List V}, Reps Γ S (ns.map D.bl) vs → vs = ns.map V.bl
  | [], _, h => h
  | n :: ns, _, ⟨v, r, h1, h2, h3⟩ => by
    cases h1
    have e : v = V.bl n := h2
    rw [e, Reps.bls h3]; rfl
theorem Reps.strs : ∀ {ns : List (List Nat)} {vs : List V}, Reps Γ S (ns.map D.str) vs → vs = ns.map fun n => V.str (tx n)
  | [], _, h => h
  | n :: ns, _, ⟨v, r, h1, h2, h3⟩ => by
    cases h1
    have e : v = V.str (tx n) := h2
    rw [e, Reps.strs h3]; rfl
theorem Reps.of_strs : ∀ (ns : List (List Nat)), Reps Γ S (ns.map D.str) (ns.map fun n => V.str (tx n))
  | [] => rfl
  | n :: ns => .cons (show V.str (tx n) = V.str (tx n) from rfl) (Reps.of_strs ns)
end

/-! ### slots and the frame -/
inductive Sl where
  | no | sh (d : D) | ow (d : D) | br (i : Nat)
abbrev Env := List Sl

section
variable (Γ : Cfg)
/-- an object of one's own at v, its addresses l, its contents in S -/
def OwR (S H : Hp) : D → V → List Addr → Prop
  | .lst ds, v, l => ∃ p vs, v = .ref p ∧ l = [p] ∧ H p = some (.lst vs) ∧ Reps Γ S ds vs
  | .dct ks ws, v, l => ∃ p vs, v = .ref p ∧ l = [p] ∧ DcR H p ks vs ∧ Reps Γ S ws vs
  | .ins c fs, v, l => ∃ p dx vs, v = .ref p ∧ l = [p, dx] ∧ SlX.Slt H p (Γ.cls c) dx vs ∧ H dx ≠ none ∧ dx ≠ p ∧ RepF Γ S fs vs
  | _, _, _ => False
def SlR (S H : Hp) : Sl → Option V → List Addr → Prop
  | .no, _, l => l = []
  | .sh d, x, l => l = [] ∧ ∃ v, x = some v ∧ Rep Γ S d v
  | .ow d, x, l => ∃ v, x = some v ∧ OwR Γ S H d v l
  | .br _, _, _ => False
def All3 (S H : Hp) : Env → L2.St → List (List Addr) → Prop
  | [], [], [] => True
  | a :: as, b :: bs, c :: cs => SlR Γ S H a b c ∧ All3 S H as bs cs
  | _, _, _ => False
structure FI (F : List (List Addr)) (ρ : Env) (σ : L2.St) (S H : Hp) : Prop where
  sub : Ex S H
  all : All3 Γ S H ρ σ F
  nd : F.flatten.Nodup
  off : ∀ a ∈ F.flatten, S a = none
structure Tr (F : List (List Addr)) (S H : Hp) (F' : List (List Addr)) (S' H' : Hp) : Prop where
  st : Ex S S'
  keep : ∀ a o, H a = some o → a ∉ F.flatten → H' a = some o
  dom : ∀ a, S' a ≠ none → S a ≠ none ∨ H a = none ∨ a ∈ F.flatten
  fsub : ∀ a ∈ F'.flatten, a ∈ F.flatten ∨ H a = none
/-- a value in flight: what it is, its addresses -/
def HdR (σ : L2.St) (S H : Hp) : Sl → V → List Addr → Prop
  | .no, _, _ => False
  | .sh d, v, l => l = [] ∧ Rep Γ S d v
  | .ow d, v, l => OwR Γ S H d v l
  | .br i, v, l => l = [] ∧ σ[i]? = some (some v)
structure HdOk (F : List (List Addr)) (σ : L2.St) (S H : Hp) (s : Sl) (v : V) (l : List Addr) : Prop where
  r : HdR Γ σ S H s v l
  nd : l.Nodup
  off : ∀ a ∈ l, a ∉ F.flatten ∧ S a = none
end
section
variable {Γ : Cfg} {F F' F'' : List (List Addr)} {S S' S'' H H' H'' : Hp} {ρ ρ' : Env} {σ σ' : L2.St}
theorem OwR.there : ∀ {d : D} {v : V} {l : List Addr}, OwR Γ S H d v l → ∀ a ∈ l, H a ≠ none
  | .lst ds, v, l, ⟨p, vs, h1, h2, h3, h4⟩, a, ha => by
    subst h2
    have e : a = p := by simpa using ha
    rw [e, h3]; simp
  | .dct ks ws, v, l, ⟨p, vs, h1, h2, h3, h4⟩, a, ha => by
    subst h2
    have e : a = p := by simpa using ha
    rcases h3 with ⟨_, _, _, h3⟩ | ⟨_, _, _, h3⟩ <;> rw [e, h3] <;> simp
  | .ins c fs, v, l, ⟨p, dx, vs, h1, h2, h3, h4, h5, h6⟩, a, ha => by
    subst h2
    have e : a = p ∨ a = dx := by simpa using ha
    rcases e with e | e
    · rcases h3 with ⟨h3, _⟩ | ⟨h3, _⟩ <;> rw [e, h3] <;> simp
    · rw [e]; exact h4
theorem OwR.go : ∀ {d : D} {v : V} {l : List Addr}, OwR Γ S H d v l → Ex S S' → (∀ a ∈ l, ∀ o, H a = some o → H' a = some o) → OwR Γ S' H' d v l
  | .lst ds, v, l, ⟨p, vs, h1, h2, h3, h4⟩, e, k => ⟨p, vs, h1, h2, k p (by rw [h2]; simp) _ h3, Reps.ex e _ _ h4⟩
  | .dct ks ws, v, l, ⟨p, vs, h1, h2, h3, h4⟩, e, k => by
    refine ⟨p, vs, h1, h2, ?_, Reps.ex e _ _ h4⟩
    rcases h3 with ⟨kk, a1, a2, a3⟩ | ⟨kk, a1, a2, a3⟩
    · exact .inl ⟨kk, a1, a2, k p (by rw [h2]; simp) _ a3⟩
    · exact .inr ⟨kk, a1, a2, k p (by rw [h2]; simp) _ a3⟩
  | .ins c fs, v, l, ⟨p, dx, vs, h1, h2, h3, h4, h5, h6⟩, e, k => by
    have k1 := k p (by rw [h2]; simp)
    have k2 := k dx (by rw [h2]; simp)
    refine ⟨p, dx, vs, h1, h2, ?_, ?_, h5, RepF.ex e _ _ h6⟩
    · rcases h3 with ⟨h3, h7⟩ | ⟨h3, h7⟩
      · exact .inl ⟨k1 _ h3, h7⟩
      · exact .inr ⟨k1 _ h3, k2 _ h7⟩
    · cases q : H dx with
      | none => exact absurd q h4
      | some o => rw [k2 o q]; simp
theorem SlR.go {s : Sl} {x : Option V} {l : List Addr} (h : SlR Γ S H s x l) (e : Ex S S') (k : ∀ a ∈ l, ∀ o, H a = some o → H' a = some o) : SlR Γ S' H' s x l := by
  cases s with
  | no => exact h
  | sh d => obtain ⟨h1, v, h2, h3⟩ := h; exact ⟨h1, v, h2, Rep.ex e _ _ h3⟩
  | ow d => obtain ⟨v, h1, h2⟩ := h; exact ⟨v, h1, h2.go e k⟩
  | br i => exact h
theorem All3.len : ∀ {ρ : Env} {σ : L2.St} {F : List (List Addr)}, All3 Γ S H ρ σ F → ρ.length = σ.length ∧ F.length = σ.length
  | [], [], [], _ => ⟨rfl, rfl⟩
  | _ :: _, _ :: _, _ :: _, ⟨_, h⟩ => by
    have := All3.len h
    simp [this.1, this.2]
  | [], [], _ :: _, h => h.elim
  | [], _ :: _, _, h => h.elim
  | _ :: _, [], _, h => h.elim
  | _ :: _, _ :: _, [], h => h.elim
theorem All3.get : ∀ {ρ : Env} {σ : L2.St} {F : List (List Addr)} {i : Nat} {s : Sl}, All3 Γ S H ρ σ F → ρ[i]? = some s → ∃ x l, σ[i]? = some x ∧ F[i]? = some l ∧ SlR Γ S H s x l
  | [], _, _, _, _, _, e => by simp at e
  | a :: _, b :: _, c :: _, 0, s, ⟨h, _⟩, e => by simp at e; subst e; exact ⟨b, c, rfl, rfl, h⟩
  | _ :: _, _ :: _, _ :: _, i + 1, s, ⟨_, h⟩, e => by
    obtain ⟨x, l, h1, h2, h3⟩ := All3.get (i := i) h (by simpa using e)
    exact ⟨x, l, by simpa using h1, by simpa using h2, h3⟩
  | _ :: _, [], _, _, _, h, _ => h.elim
  | _ :: _, _ :: _, [], _, _, h, _ => h.elim
theorem All3.set : ∀ {ρ : Env} {σ : L2.St} {F : List (List Addr)} (i : Nat) {s : Sl} {x : Option V} {l : List Addr}, All3 Γ S H ρ σ F → SlR Γ S H s x l → All3 Γ S H (ρ.set i s) (σ.set i x) (F.set i l)
  | [], [], [], _, _, _, _, _, _ => True.intro
  | _ :: _, _ :: _, _ :: _, 0, _, _, _, ⟨_, h⟩, q => ⟨q, h⟩
  | _ :: _, _ :: _, _ :: _, i + 1, _, _, _, ⟨h1, h⟩, q => ⟨h1, All3.set i h q⟩
  | [], [], _ :: _, _, _, _, _, h, _ => h.elim
  | [], _ :: _, _, _, _, _, _, h, _ => h.elim
  | _ :: _, [], _, _, _, _, _, h, _ => h.elim
  | _ :: _, _ :: _, [], _, _, _, _, h, _ => h.elim
theorem All3.go : ∀ {ρ : Env} {σ : L2.St} {F : List (List Addr)}, All3 Γ S H ρ σ F → Ex S S' → (∀ a ∈ F.flatten, ∀ o, H a = some o → H' a = some o) → All3 Γ S' H' ρ σ F
  | [], [], [], _, _, _ => True.intro
  | _ :: _, _ :: _, c :: cs, ⟨h1, h⟩, e, k => ⟨h1.go e fun a ha o q => k a (by simp [ha]) o q, All3.go h e fun a ha o q => k a (by rw [List.flatten_cons]; exact List.mem_append_right _ ha) o q⟩
  | [], [], _ :: _, h, _, _ => h.elim
  | [], _ :: _, _, h, _, _ => h.elim
  | _ :: _, [], _, h, _, _ => h.elim
  | _ :: _, _ :: _, [], h, _, _ => h.elim
theorem All3.there : ∀ {ρ : Env} {σ : L2.St} {F : List (List Addr)}, All3 Γ S H ρ σ F → ∀ a ∈ F.flatten, H a ≠ none
  | [], [], [], _, a, ha => by simp at ha
  | s :: _, _ :: _, c :: cs, ⟨h1, h⟩, a, ha => by
    rw [List.flatten_cons] at ha
    rcases List.mem_append.mp ha with ha | ha
    · cases s with
      | no => have e : c = [] := h1; subst e; simp at ha
      | sh d => obtain ⟨e, _⟩ := h1; subst e; simp at ha
      | ow d => obtain ⟨v, _, h2⟩ := h1; exact h2.there a ha
      | br i => exact h1.elim
    · exact All3.there h a ha
  | [], [], _ :: _, h, _, _ => h.elim
  | [], _ :: _, _, h, _, _ => h.elim
  | _ :: _, [], _, h, _, _ => h.elim
  | _ :: _, _ :: _, [], h, _, _ => h.elim
theorem FI.there (I : FI Γ F ρ σ S H) : ∀ a ∈ F.flatten, H a ≠ none := I.all.there

theorem Tr.refl : Tr F S H F S H := ⟨Ex.refl _, fun _ _ h _ => h, fun _ h => .inl h, fun _ h => .inl h⟩
theorem Tr.trans (a : Tr F S H F' S' H') (b : Tr F' S' H' F'' S'' H'') : Tr F S H F'' S'' H'' where
  st := a.st.trans b.st
  keep := fun x o h hn => b.keep x o (a.keep x o h hn) fun z => by
    rcases a.fsub x z with q | q
    · exact hn q
    · rw [h] at q; cases q
  dom := fun x h => by
    have back : ∀ y, H' y = none → H y = none ∨ y ∈ F.flatten := fun y hy => by
      by_cases hf : y ∈ F.flatten
      · exact .inr hf
      · cases q : H y with
        | none => exact .inl rfl
        | some o => rw [a.keep y o q hf] at hy; cases hy
    rcases b.dom x h with q | q | q
    · exact a.dom x q
    · exact .inr (back x q)
    · rcases a.fsub x q with z | z
      · exact .inr (.inr z)
      · exact .inr (.inl z)
  fsub := fun x h => by
    rcases b.fsub x h with q | q
    · exact a.fsub x q
    · by_cases hf : x ∈ F.flatten
      · exact .inl hf
      · cases z : H x with
        | none => exact .inr rfl
        | some o => rw [a.keep x o z hf] at q; cases q
theorem Tr.back (a : Tr F S H F' S' H') {y : Addr} (hy : H' y = none) : y ∈ F.flatten ∨ H y = none := by
  by_cases hf : y ∈ F.flatten
  · exact .inl hf
  · cases q : H y with
    | none => exact .inr rfl
    | some o => rw [a.keep y o q hf] at hy; cases hy

theorem HdR.there {s : Sl} {v : V} {l : List Addr} (h : HdR Γ σ S H s v l) : ∀ a ∈ l, H a ≠ none := by
  cases s with
  | no => exact h.elim
  | sh d => obtain ⟨e, _⟩ := h; subst e; simp
  | ow d => exact OwR.there h
  | br i => obtain ⟨e, _⟩ := h; subst e; simp
/-- a value in flight over a step -/
theorem HdOk.go {s : Sl} {v : V} {l : List Addr} (h : HdOk Γ F σ S H s v l) (t : Tr F S H F' S' H') : HdOk Γ F' σ S' H' s v l where
  r := by
    have q := h.r
    cases s with
    | no => exact q
    | sh d => exact ⟨q.1, Rep.ex t.st _ _ q.2⟩
    | ow d => exact OwR.go (show OwR Γ S H d v l from q) t.st fun a ha o e => t.keep a o e (h.off a ha).1
    | br i => exact q
  nd := h.nd
  off := fun a ha => by
    obtain ⟨o1, o2⟩ := h.off a ha
    have th := h.r.there a ha
    refine ⟨fun z => ?_, ?_⟩
    · rcases t.fsub a z with q | q
      · exact o1 q
      · exact th q
    · cases q : S' a with
      | none => rfl
      | some o =>
        rcases t.dom a (by rw [q]; simp) with z | z | z
        · exact absurd o2 z
        · exact absurd z th
        · exact absurd z o1
theorem HdOk.sh {d : D} {v : V} (h : Rep Γ S d v) : HdOk Γ F σ S H (.sh d) v [] := ⟨⟨rfl, h⟩, List.nodup_nil, by simp⟩

/-! ### results, the judgement of an expression -/
inductive Res (α : Type) where
  | ok (a : α) (ρ : Env)
  | exc (c : Nat) (fs : List D) (ρ : Env)
  | bad
end
abbrev Ev (α : Type) := Env → Res α
def Ev.bind {α β : Type} (m : Ev α) (k : α → Ev β) : Ev β := fun ρ => match m ρ with
  | .ok a ρ' => k a ρ'
  | .exc c fs ρ' => .exc c fs ρ'
  | .bad => .bad
def Ev.pure {α : Type} (a : α) : Ev α := fun ρ => .ok a ρ
def Ev.bad {α : Type} : Ev α := fun _ => .bad

/-- the exception's class, its own dict at l -/
def XR (Γ : Cfg) (F : List (List Addr)) (S H : Hp) (c : Nat) (fs : List D) (cls : Value) (dd : Option Addr) : Prop :=
  cls = .ref (Γ.cls c) ∧ ∃ d vs, dd = some d ∧ H d = some (.xd ((Γ.xf c).zip vs)) ∧ Reps Γ S fs vs ∧ d ∉ F.flatten ∧ S d = none
/-- what is to hold behind: of the frame and heap ahead, the result, the frame, S and H behind -/
abbrev Pst (α : Type) := List (List Addr) → Hp → α → List (List Addr) → Hp → Hp → Prop
section
variable (Γ : Cfg) (W : WX)
def OutX (F : List (List Addr)) (S H : Hp) (σ : L2.St) (c : Nat) (fs : List D) (ρ' : Env) : Prop :=
  ∀ cls dd F' S' H', FI Γ F' ρ' σ S' H' → Tr F S H F' S' H' → (∀ d, dd = some d → d ∈ F.flatten ∨ H d = none) → XR Γ F' S' H' c fs cls dd → W cls dd σ H'
def Out {α : Type} (p : Pst α) (F : List (List Addr)) (S H : Hp) (σ : L2.St) : Res α → Prop
  | .ok a ρ' => ∀ F' S' H', FI Γ F' ρ' σ S' H' → Tr F S H F' S' H' → p F H a F' S' H'
  | .exc c fs ρ' => OutX Γ W F S H σ c fs ρ'
  | .bad => False
/-- an expression's end; a test's -/
def pE (σ : L2.St) (Q : VK) : Pst Sl := fun F H s F' S' H' => ∀ v l, (∀ a ∈ l, a ∈ F.flatten ∨ H a = none) → HdOk Γ F' σ S' H' s v l → Q v H'
def pT (Q : Bool → Hp → Prop) : Pst Bool := fun _ _ b _ _ H' => Q b H'
def Sem (t : TE) (ev : Ev Sl) : Prop := ∀ F ρ σ S H Q, FI Γ F ρ σ S H → Out Γ W (pE Γ σ Q) F S H σ (ev ρ) → t σ H Q
def SemT (t : TT) (ev : Ev Bool) : Prop := ∀ F ρ σ S H Q, FI Γ F ρ σ S H → Out Γ W (pT Q) F S H σ (ev ρ) → t σ H Q
end
/-- it may be asked of a later state -/
def Later {α : Type} (p : Pst α) : Prop := ∀ F H F' H' a F2 S2 H2, (∀ x, x ∈ F'.flatten ∨ H' x = none → x ∈ F.flatten ∨ H x = none) → p F H a F2 S2 H2 → p F' H' a F2 S2 H2
theorem pE_later {Γ : Cfg} {σ : L2.St} {Q : VK} : Later (pE Γ σ Q) := fun _ _ _ _ _ _ _ _ up h v l hl hd => h v l (fun a ha => up a (hl a ha)) hd
theorem pT_later {Q : Bool → Hp → Prop} : Later (pT Q) := fun _ _ _ _ _ _ _ _ _ h => h
section
variable {Γ : Cfg} {W : WX} {F F' : List (List Addr)} {S S' H H' : Hp} {ρ : Env} {σ : L2.St} {Q : VK} {α β : Type} {p : Pst α}
theorem Tr.up (t : Tr F S H F' S' H') : ∀ a, a ∈ F'.flatten ∨ H' a = none → a ∈ F.flatten ∨ H a = none := fun a z => z.elim (t.fsub a) t.back
theorem Out.later (hp : Later p) {r : Res α} (h : Out Γ W p F S H σ r) (t : Tr F S H F' S' H') : Out Γ W p F' S' H' σ r := by
  cases r with
  | ok s ρ' => exact fun F2 S2 H2 I T => hp _ _ _ _ _ _ _ _ t.up (h F2 S2 H2 I (t.trans T))
  | exc c fs ρ' => exact fun cls dd F2 S2 H2 I T hl x => h cls dd F2 S2 H2 I (t.trans T) (fun a ha => t.up a (hl a ha)) x
  | bad => exact h
/-- the first of two: an expression, then ..; o is of a state F0, S0, H0 before -/
theorem Sem.bind {F0 : List (List Addr)} {S0 H0 : Hp} {t : TE} {m : Ev Sl} {k : Sl → Ev α} {P : VK} (h : Sem Γ W t m) (hp : Later p) (I : FI Γ F ρ σ S H) (T0 : Tr F0 S0 H0 F S H) (o : Out Γ W p F0 S0 H0 σ (Ev.bind m k ρ))
    (next : ∀ s ρ' v l F' S' H', FI Γ F' ρ' σ S' H' → Tr F S H F' S' H' → Tr F0 S0 H0 F' S' H' → HdOk Γ F' σ S' H' s v l → (∀ a ∈ l, a ∈ F.flatten ∨ H a = none) → Out Γ W p F0 S0 H0 σ (k s ρ') → P v H') : t σ H P := by
  refine h F ρ σ S H P I ?_
  unfold Ev.bind at o
  cases e : m ρ with
  | ok s ρ' =>
    rw [e] at o
    exact fun F' S' H' I' T v l hl hd => next s ρ' v l F' S' H' I' T (T0.trans T) hd hl o
  | exc c fs ρ' => rw [e] at o; exact Out.later (p := p) (r := .exc c fs ρ') hp o T0
  | bad => rw [e] at o; exact o
/-- a test, then .. -/
theorem SemT.bind {F0 : List (List Addr)} {S0 H0 : Hp} {t : TT} {m : Ev Bool} {k : Bool → Ev α} {P : Bool → Hp → Prop} (h : SemT Γ W t m) (hp : Later p) (I : FI Γ F ρ σ S H) (T0 : Tr F0 S0 H0 F S H) (o : Out Γ W p F0 S0 H0 σ (Ev.bind m k ρ))
    (next : ∀ b ρ' F' S' H', FI Γ F' ρ' σ S' H' → Tr F S H F' S' H' → Tr F0 S0 H0 F' S' H' → Out Γ W p F0 S0 H0 σ (k b ρ') → P b H') : t σ H P := by
  refine h F ρ σ S H P I ?_
  unfold Ev.bind at o
  cases e : m ρ with
  | ok s ρ' =>
    rw [e] at o
    exact fun F' S' H' I' T => next s ρ' F' S' H' I' T (T0.trans T) o
  | exc c fs ρ' => rw [e] at o; exact Out.later (p := p) (r := .exc c fs ρ') hp o T0
  | bad => rw [e] at o; exact o
end

/-! ### reading, freezing -/
def look (ρ : Env) : Sl → Option D
  | .sh d => some d
  | .ow d => some d
  | .br i => match ρ[i]? with
    | some (.ow d) => some d
    | some (.sh d) => some d
    | _ => none
  | .no => none
def frz (ρ : Env) : Sl → Option (D × Env)
  | .sh d => some (d, ρ)
  | .ow d => some (d, ρ)
  | .br i => match ρ[i]? with
    | some (.ow d) => some (d, ρ.set i (.sh d))
    | some (.sh d) => some (d, ρ)
    | _ => none
  | .no => none
section
variable (Γ : Cfg) (S H : Hp)
/-- what can be read now at v -/
def Lk : D → V → Prop
  | .lst ds, v => ∃ p vs, v = .ref p ∧ H p = some (.lst vs) ∧ Reps Γ S ds vs
  | .dct ks ws, v => ∃ p vs, v = .ref p ∧ DcR H p ks vs ∧ Reps Γ S ws vs
  | .ins c fs, v => ∃ p dx vs, v = .ref p ∧ SlX.Slt H p (Γ.cls c) dx vs ∧ RepF Γ S fs vs
  | d, v => Rep Γ S d v
end
section
variable {Γ : Cfg} {W : WX} {F F' : List (List Addr)} {S S' H H' : Hp} {ρ ρ' : Env} {σ : L2.St} {Q : VK} {v : V} {l : List Addr}
theorem Lk.of_rep (e : Ex S H) : ∀ {d : D} {v : V}, Rep Γ S d v → Lk Γ S H d v
  | .lst ds, v, ⟨a, vs, h1, h2, h3⟩ => ⟨a, vs, h1, e _ _ h2, h3⟩
  | .dct ks ws, v, ⟨a, vs, h1, h2, h3⟩ => ⟨a, vs, h1, h2.ex e, h3⟩
  | .ins c fs, v, ⟨a, dx, vs, h1, h2, h3⟩ => ⟨a, dx, vs, h1, slt_ex e h2, h3⟩
  | .un, _, h => h
  | .non, _, h => h
  | .bl _, _, h => h
  | .int _, _, h => h
  | .str _, _, h => h
  | .tup _, _, h => h
  | .scr _, _, h => h
  | .exc _ _, _, h => h
theorem Lk.of_ow : ∀ {d : D} {v : V} {l : List Addr}, OwR Γ S H d v l → Lk Γ S H d v
  | .lst ds, v, l, ⟨a, vs, h1, _, h2, h3⟩ => ⟨a, vs, h1, h2, h3⟩
  | .dct ks ws, v, l, ⟨a, vs, h1, _, h2, h3⟩ => ⟨a, vs, h1, h2, h3⟩
  | .ins c fs, v, l, ⟨a, dx, vs, h1, _, h2, _, _, h3⟩ => ⟨a, dx, vs, h1, h2, h3⟩
theorem look_ok {s : Sl} {d : D} (I : FI Γ F ρ σ S H) (h : HdOk Γ F σ S H s v l) (e : look ρ s = some d) : Lk Γ S H d v := by
  cases s with
  | no => cases e
  | sh d' => cases e; exact .of_rep I.sub h.r.2
  | ow d' => cases e; exact .of_ow h.r
  | br i =>
    obtain ⟨_, hv⟩ := h.r
    dsimp only [look] at e
    cases q : ρ[i]? with
    | none => rw [q] at e; cases e
    | some s' =>
      rw [q] at e
      obtain ⟨x, l', h1, h2, h3⟩ := I.all.get q
      rw [hv] at h1
      cases h1
      cases s' with
      | no => cases e
      | sh d' => cases e; obtain ⟨_, w, hw, r⟩ := h3; cases hw; exact .of_rep I.sub r
      | ow d' => cases e; obtain ⟨w, hw, r⟩ := h3; cases hw; exact .of_ow r
      | br j => cases e
/-- S with l's objects -/
def add (S H : Hp) (l : List Addr) : Hp := fun a => if a ∈ l then H a else S a
theorem add_in {a : Addr} {l : List Addr} (h : a ∈ l) : add S H l a = H a := if_pos h
theorem add_out {a : Addr} {l : List Addr} (h : a ∉ l) : add S H l a = S a := if_neg h
theorem add_ex {l : List Addr} (h : ∀ a ∈ l, S a = none) : Ex S (add S H l) := fun a o e => by
  rw [add_out (fun z => by rw [h a z] at e; cases e)]; exact e
theorem add_sub {l : List Addr} (h : Ex S H) : Ex (add S H l) H := fun a o e => by
  by_cases q : a ∈ l
  · rw [add_in q] at e; exact e
  · rw [add_out q] at e; exact h a o e
theorem OwR.freeze : ∀ {d : D} {v : V} {l : List Addr}, OwR Γ S H d v l → (∀ a ∈ l, S a = none) → Rep Γ (add S H l) d v
  | .lst ds, v, l, ⟨a, vs, h1, h0, h2, h3⟩, o => ⟨a, vs, h1, (add_in (by rw [h0]; simp)).trans h2, Reps.ex (add_ex o) _ _ h3⟩
  | .dct ks ws, v, l, ⟨a, vs, h1, h0, h2, h3⟩, o => ⟨a, vs, h1, h2.mono (add_in (by rw [h0]; simp)), Reps.ex (add_ex o) _ _ h3⟩
  | .ins c fs, v, l, ⟨a, dx, vs, h1, h0, h2, _, _, h3⟩, o => ⟨a, dx, vs, h1, by
      rcases h2 with ⟨h2, h4⟩ | ⟨h2, h4⟩
      · exact .inl ⟨(add_in (by rw [h0]; simp)).trans h2, h4⟩
      · exact .inr ⟨(add_in (by rw [h0]; simp)).trans h2, (add_in (by rw [h0]; simp)).trans h4⟩, RepF.ex (add_ex o) _ _ h3⟩
theorem flatten_mem {F : List (List Addr)} {i : Nat} {l : List Addr} {a : Addr} (h : F[i]? = some l) (ha : a ∈ l) : a ∈ F.flatten := List.mem_flatten.mpr ⟨l, List.mem_of_getElem? h, ha⟩
theorem mem_set_nil : ∀ {F : List (List Addr)} {i : Nat} {a : Addr}, a ∈ (F.set i []).flatten → a ∈ F.flatten
  | [], _, _, h => h
  | l :: F, 0, a, h => by
    rw [List.set_cons_zero, List.flatten_cons, List.nil_append] at h
    rw [List.flatten_cons]; exact List.mem_append_right _ h
  | l :: F, i + 1, a, h => by
    rw [List.set_cons_succ, List.flatten_cons] at h
    rw [List.flatten_cons]
    rcases List.mem_append.mp h with h | h
    · exact List.mem_append_left _ h
    · exact List.mem_append_right _ (mem_set_nil h)
theorem set_nil_sub : ∀ {F : List (List Addr)} {i : Nat}, (F.set i []).flatten.Sublist F.flatten
  | [], _ => List.Sublist.refl _
  | l :: F, 0 => by
    rw [List.set_cons_zero, List.flatten_cons, List.nil_append, List.flatten_cons]; exact List.sublist_append_right _ _
  | l :: F, i + 1 => by
    rw [List.set_cons_succ, List.flatten_cons, List.flatten_cons]
    exact List.Sublist.append (List.Sublist.refl _) set_nil_sub
/-- what slot i holds is no other's -/
theorem set_nil_not : ∀ {F : List (List Addr)} {i : Nat} {l : List Addr} {a : Addr}, F.flatten.Nodup → F[i]? = some l → a ∈ l → a ∉ (F.set i []).flatten
  | [], _, _, _, _, e, _ => by cases e
  | l :: F, 0, _, a, nd, e, ha => by
    cases e
    rw [List.set_cons_zero, List.flatten_cons, List.nil_append]
    rw [List.flatten_cons] at nd
    intro z
    exact (List.nodup_append.mp nd).2.2 a ha a z rfl
  | l :: F, i + 1, l', a, nd, e, ha => by
    have e : F[i]? = some l' := by simpa using e
    rw [List.flatten_cons] at nd
    rw [List.set_cons_succ, List.flatten_cons]
    intro z
    rcases List.mem_append.mp z with z | z
    · exact (List.nodup_append.mp nd).2.2 a z a (flatten_mem e ha) rfl
    · exact set_nil_not (List.nodup_append.mp nd).2.1 e ha z
/-- the addresses l go into S -/
theorem FI.add (I : FI Γ F ρ σ S H) (l : List Addr) (h1 : ∀ a ∈ l, a ∉ F.flatten) (h2 : ∀ a ∈ l, S a = none) : FI Γ F ρ σ (add S H l) H where
  sub := add_sub I.sub
  all := I.all.go (add_ex h2) fun _ _ _ e => e
  nd := I.nd
  off := fun a ha => by rw [add_out (fun z => h1 a z ha)]; exact I.off a ha
theorem Tr.add {F0 : List (List Addr)} {S0 H0 : Hp} (t : Tr F0 S0 H0 F S H) (l : List Addr) (h2 : ∀ a ∈ l, S a = none) (hl : ∀ a ∈ l, a ∈ F0.flatten ∨ H0 a = none) : Tr F0 S0 H0 F (add S H l) H where
  st := t.st.trans (add_ex h2)
  keep := t.keep
  dom := fun a h => by
    by_cases q : a ∈ l
    · exact .inr ((hl a q).symm)
    · rw [add_out q] at h; exact t.dom a h
  fsub := t.fsub
/-- slot i is frozen -/
theorem FI.frz {i : Nat} {d : D} {x : Option V} (I : FI Γ F ρ σ S H) (hl : F[i]? = some l) (hx : σ[i]? = some x) (h : SlR Γ S H (.ow d) x l) : FI Γ (F.set i []) (ρ.set i (.sh d)) σ (PM.add S H l) H := by
  have mem : ∀ a ∈ l, a ∈ F.flatten := fun a ha => flatten_mem hl ha
  have o2 : ∀ a ∈ l, S a = none := fun a ha => I.off a (mem a ha)
  obtain ⟨v, hv, r⟩ := h
  have A := I.all.go (S' := PM.add S H l) (H' := H) (add_ex o2) fun _ _ _ e => e
  have B := A.set i (s := .sh d) (x := x) (l := []) ⟨rfl, v, hv, r.freeze o2⟩
  have es : σ.set i x = σ := by
    refine List.ext_getElem? fun j => ?_
    by_cases q : i = j
    · subst q
      obtain ⟨h1, h2⟩ := List.getElem?_eq_some_iff.mp hx
      rw [List.getElem?_set_self h1, hx]
    · rw [List.getElem?_set_ne q]
  rw [es] at B
  refine ⟨add_sub I.sub, B, I.nd.sublist set_nil_sub, fun a ha => ?_⟩
  rw [add_out (fun z => set_nil_not I.nd hl z ha)]
  exact I.off a (mem_set_nil ha)
/-- a value in flight is frozen; F0, S0, H0: the state ahead of it -/
theorem frz_ok {F0 : List (List Addr)} {S0 H0 : Hp} {s : Sl} {d : D} (t : Tr F0 S0 H0 F S H) (hl : ∀ a ∈ l, a ∈ F0.flatten ∨ H0 a = none) (I : FI Γ F ρ σ S H) (h : HdOk Γ F σ S H s v l) (e : PM.frz ρ s = some (d, ρ')) :
    ∃ F' S', FI Γ F' ρ' σ S' H ∧ Tr F0 S0 H0 F' S' H ∧ Rep Γ S' d v := by
  cases s with
  | no => cases e
  | sh d' => cases e; exact ⟨F, S, I, t, h.r.2⟩
  | ow d' =>
    cases e
    have o2 : ∀ a ∈ l, S a = none := fun a ha => (h.off a ha).2
    exact ⟨F, add S H l, I.add l (fun a ha => (h.off a ha).1) o2, t.add l o2 hl, OwR.freeze h.r o2⟩
  | br i =>
    obtain ⟨hl0, hv⟩ := h.r
    dsimp only [PM.frz] at e
    cases q : ρ[i]? with
    | none => rw [q] at e; cases e
    | some s' =>
      rw [q] at e
      obtain ⟨x, l', h1, h2, h3⟩ := I.all.get q
      cases s' with
      | no => cases e
      | sh d' =>
        cases e
        rw [hv] at h1
        cases h1
        obtain ⟨_, w, hw, r⟩ := h3
        cases hw
        exact ⟨F, S, I, t, r⟩
      | ow d' =>
        cases e
        have I2 := I.frz h2 h1 h3
        obtain ⟨w, hw, r⟩ := h3
        rw [hv] at h1
        cases h1
        cases hw
        have o2 : ∀ a ∈ l', S a = none := fun a ha => I.off a (flatten_mem h2 ha)
        refine ⟨_, _, I2, ?_, r.freeze o2⟩
        have T := t.add l' o2 fun a ha => t.fsub a (flatten_mem h2 ha)
        exact ⟨T.st, T.keep, T.dom, fun a ha => T.fsub a (mem_set_nil ha)⟩
      | br j => cases e

/-! ### what an operation gives: nothing that stood is changed -/
def Give (Γ : Cfg) (S H : Hp) (s : Sl) (Q : VK) : Prop :=
  ∀ v l S' H', Ex S S' → Ex H H' → Ex S' H' → (∀ a, S' a ≠ none → S a ≠ none ∨ H a = none) → (∀ a ∈ l, H a = none ∧ S' a = none) → l.Nodup → HdR Γ [] S' H' s v l → Q v H'
theorem hdR_any {s : Sl} (h : HdR Γ [] S H s v l) : HdR Γ σ S H s v l := by
  cases s with
  | no => exact h
  | sh d => exact h
  | ow d => exact h
  | br i => obtain ⟨_, q⟩ := h; cases q
theorem FI.ext (I : FI Γ F ρ σ S H) (h1 : Ex S S') (h2 : Ex H H') (h3 : Ex S' H') (h4 : ∀ a, S' a ≠ none → S a ≠ none ∨ H a = none) : FI Γ F ρ σ S' H' where
  sub := h3
  all := I.all.go h1 fun a _ o e => h2 a o e
  nd := I.nd
  off := fun a ha => by
    cases q : S' a with
    | none => rfl
    | some o =>
      rcases h4 a (by rw [q]; simp) with z | z
      · exact absurd (I.off a ha) z
      · exact absurd z (I.there a ha)
theorem Tr.ext (h1 : Ex S S') (h2 : Ex H H') (h4 : ∀ a, S' a ≠ none → S a ≠ none ∨ H a = none) : Tr F S H F S' H' :=
  ⟨h1, fun a o e _ => h2 a o e, fun a h => (h4 a h).imp id .inl, fun _ h => .inl h⟩
theorem Out.give {s : Sl} (I : FI Γ F ρ σ S H) (o : Out Γ W (pE Γ σ Q) F S H σ (.ok s ρ)) : Give Γ S H s Q := fun v l S' H' h1 h2 h3 h4 h5 h6 h7 =>
  o F S' H' (I.ext h1 h2 h3 h4) (Tr.ext h1 h2 h4) v l (fun a ha => .inr (h5 a ha).1) ⟨hdR_any h7, h6, fun a ha => ⟨fun z => I.there a z (h5 a ha).1, (h5 a ha).2⟩⟩
theorem Give.val {d : D} (g : Give Γ S H (.sh d) Q) (e : Ex S H) (r : Rep Γ S d v) : Q v H := g v [] S H (Ex.refl _) (Ex.refl _) e (fun _ h => .inl h) (by simp) List.nodup_nil ⟨rfl, r⟩
theorem free_sub {p : Addr} (e : Ex S H) (h : H p = none) : S p = none := by
  cases q : S p with
  | none => rfl
  | some o => rw [e p o q] at h; cases h
theorem upd_dom {p : Addr} {o : HO} (hp : H p = none) : ∀ a, upd S p o a ≠ none → S a ≠ none ∨ H a = none := fun a h => by
  by_cases q : a = p
  · subst q; exact .inr hp
  · rw [upd_ne q] at h; exact .inl h
theorem Give.newT {ds : List D} {vs : List V} (g : Give Γ S H (.sh (.tup ds)) Q) (e : Ex S H) (r : Reps Γ S ds vs) (p : Addr) (hp : H p = none) : Q (.ref p) (upd H p (.tup vs)) :=
  g (.ref p) [] (upd S p (.tup vs)) _ (Ex.new (free_sub e hp)) (Ex.new hp) (upd_ex e) (upd_dom hp) (by simp) List.nodup_nil
    ⟨rfl, p, vs, rfl, upd_same, Reps.ex (Ex.new (free_sub e hp)) _ _ r⟩
theorem Give.newL {ds : List D} {vs : List V} (g : Give Γ S H (.ow (.lst ds)) Q) (e : Ex S H) (r : Reps Γ S ds vs) (p : Addr) (hp : H p = none) : Q (.ref p) (upd H p (.lst vs)) :=
  g (.ref p) [p] S _ (Ex.refl _) (Ex.new hp) (e.trans (Ex.new hp)) (fun _ h => .inl h) (fun a ha => by
    have z : a = p := by simpa using ha
    subst z; exact ⟨hp, free_sub e hp⟩) (by simp) ⟨p, vs, rfl, rfl, upd_same, r⟩
end
end PM

set_option Elab.async false
set_option linter.all false
set_option maxRecDepth 100000
set_option maxHeartbeats 4000000
/-! PM, part b: expressions, tests, argument lists, displays. -/
namespace PM
open PySem PySem.Spec PyProof.Rows L2

def okL (n : Nat) : Bool := Nat.ble n 100000
theorem okL_le {n : Nat} (h : okL n = true) : n ≤ sizeLine := Nat.le_trans (Nat.le_of_ble_eq_true h) (by decide)
theorem okL_lt {n : Nat} (h : okL n = true) : n < sizeLine := Nat.lt_of_le_of_lt (Nat.le_of_ble_eq_true h) (by decide)

def giveAt (ρ : Env) : Option Sl → Res Sl
  | some s => .ok s ρ
  | none => .bad
def eVar (i : Nat) : Ev Sl := fun ρ => match ρ[i]? with
  | some (.sh d) => .ok (.sh d) ρ
  | some (.ow _) => .ok (.br i) ρ
  | _ => .bad
def eC (d : D) : Ev Sl := fun ρ => .ok (.sh d) ρ
/-- frozen -/
def eFr (m : Ev Sl) : Ev Sl := Ev.bind m fun s ρ => match frz ρ s with
  | some (d, ρ') => .ok (.sh d) ρ'
  | none => .bad
def op2 (f : D → D → Option Sl) (ρ : Env) (a b : Sl) : Res Sl := match look ρ a, look ρ b with
  | some x, some y => giveAt ρ (f x y)
  | _, _ => .bad
def eOp (f : D → D → Option Sl) (m1 m2 : Ev Sl) : Ev Sl := Ev.bind m1 fun a => Ev.bind m2 fun b ρ => op2 f ρ a b
def eUn (f : D → Option Sl) (m : Ev Sl) : Ev Sl := Ev.bind m fun a ρ => match look ρ a with
  | some x => giveAt ρ (f x)
  | none => .bad
def bl? : Option D → Option Bool
  | some (.bl b) => some b
  | _ => none
def eTest (m : Ev Sl) : Ev Bool := Ev.bind m fun a ρ => match bl? (look ρ a) with
  | some b => .ok b ρ
  | none => .bad
def eAnd (m1 m2 : Ev Bool) : Ev Bool := Ev.bind m1 fun b => if b = true then m2 else fun ρ => .ok false ρ
def eOr (m1 m2 : Ev Bool) : Ev Bool := Ev.bind m1 fun b => if b = true then fun ρ => .ok true ρ else m2
def eNot (m : Ev Bool) : Ev Bool := Ev.bind m fun b ρ => .ok (!b) ρ
def eIf (c : Ev Bool) (m1 m2 : Ev Sl) : Ev Sl := Ev.bind c fun b => if b = true then m1 else m2
def eBl (m : Ev Bool) : Ev Sl := Ev.bind m fun b ρ => .ok (.sh (.bl b)) ρ
def eAndV (m1 m2 : Ev Sl) : Ev Sl := Ev.bind (eTest m1) fun b => if b = true then m2 else fun ρ => .ok (.sh (.bl false)) ρ
def eOrV (m1 m2 : Ev Sl) : Ev Sl := Ev.bind (eTest m1) fun b => if b = true then fun ρ => .ok (.sh (.bl true)) ρ else m2
def eNotV (m : Ev Sl) : Ev Sl := eBl (eNot (eTest m))
def eNil : Ev (List Sl) := fun ρ => .ok [] ρ
def eCons (m : Ev Sl) (ms : Ev (List Sl)) : Ev (List Sl) := Ev.bind m fun s => Ev.bind ms fun ss ρ => .ok (s :: ss) ρ
def shs : List Sl → Option (List D)
  | [] => some []
  | .sh d :: r => (shs r).map (d :: ·)
  | _ => none
def looks (ρ : Env) : List Sl → Option (List D)
  | [] => some []
  | s :: r => match look ρ s, looks ρ r with
    | some d, some ds => some (d :: ds)
    | _, _ => none
def eTup (ms : Ev (List Sl)) : Ev Sl := Ev.bind ms fun ss ρ => match shs ss with
  | some ds => if okL ds.length = true then .ok (.sh (.tup ds)) ρ else .bad
  | none => .bad
def eLst (ms : Ev (List Sl)) : Ev Sl := Ev.bind ms fun ss ρ => match shs ss with
  | some ds => if okL ds.length = true then .ok (.ow (.lst ds)) ρ else .bad
  | none => .bad
def eCB (f : List D → Option Sl) (ms : Ev (List Sl)) : Ev Sl := Ev.bind ms fun ss ρ => match looks ρ ss with
  | some ds => giveAt ρ (f ds)
  | none => .bad

section
variable (Γ : Cfg)
structure OpD (r : R2) (f : D → D → Option Sl) : Prop where
  run : ∀ S H a b x y s Q, Ex S H → Lk Γ S H a x → Lk Γ S H b y → f a b = some s → Give Γ S H s Q → r x y H Q
structure UnD (r : V → Hp → VK → Prop) (f : D → Option Sl) : Prop where
  run : ∀ S H a x s Q, Ex S H → Lk Γ S H a x → f a = some s → Give Γ S H s Q → r x H Q
def Lks (S H : Hp) : List D → List V → Prop
  | [], vs => vs = []
  | d :: ds, vs => ∃ v r, vs = v :: r ∧ Lk Γ S H d v ∧ Lks S H ds r
structure CbD (r : List V → Hp → VK → Prop) (f : List D → Option Sl) : Prop where
  run : ∀ S H ds vs s Q, Ex S H → Lks Γ S H ds vs → f ds = some s → Give Γ S H s Q → r vs H Q
def HdRs (σ : L2.St) (S H : Hp) : List Sl → List V → List (List Addr) → Prop
  | [], [], [] => True
  | s :: ss, v :: vs, l :: ls => HdR Γ σ S H s v l ∧ HdRs σ S H ss vs ls
  | _, _, _ => False
structure HdsOk (F : List (List Addr)) (σ : L2.St) (S H : Hp) (ss : List Sl) (vs : List V) (ls : List (List Addr)) : Prop where
  r : HdRs Γ σ S H ss vs ls
  nd : ls.flatten.Nodup
  off : ∀ a ∈ ls.flatten, a ∉ F.flatten ∧ S a = none
def pA (σ : L2.St) (Q : List V → Hp → Prop) : Pst (List Sl) := fun F H ss F' S' H' => ∀ vs ls, (∀ a ∈ ls.flatten, a ∈ F.flatten ∨ H a = none) → HdsOk Γ F' σ S' H' ss vs ls → Q vs H'
def SemA (W : WX) (t : TA) (m : Ev (List Sl)) : Prop := ∀ F ρ σ S H Q, FI Γ F ρ σ S H → Out Γ W (pA Γ σ Q) F S H σ (m ρ) → t σ H Q
end
theorem pA_later {Γ : Cfg} {σ : L2.St} {Q : List V → Hp → Prop} : Later (pA Γ σ Q) := fun _ _ _ _ _ _ _ _ up h vs ls hl hd => h vs ls (fun a ha => up a (hl a ha)) hd

section
variable {Γ : Cfg} {W : WX} {F F' : List (List Addr)} {S S' H H' : Hp} {ρ ρ' : Env} {σ : L2.St} {Q : VK} {α : Type} {p : Pst α} {t t1 t2 te ta tb : TE} {m m1 m2 : Ev Sl}
theorem Out.bad {r : Res α} (h : r = .bad) : ¬ Out Γ W p F S H σ r := by rw [h]; exact id
theorem HdRs.there : ∀ {ss : List Sl} {vs : List V} {ls : List (List Addr)}, HdRs Γ σ S H ss vs ls → ∀ a ∈ ls.flatten, H a ≠ none
  | [], [], [], _, a, ha => by simp at ha
  | _ :: _, _ :: _, l :: ls, ⟨h1, h⟩, a, ha => by
    rw [List.flatten_cons] at ha
    rcases List.mem_append.mp ha with ha | ha
    · exact h1.there a ha
    · exact HdRs.there h a ha
  | [], [], _ :: _, h, _, _ => h.elim
  | [], _ :: _, _, h, _, _ => h.elim
  | _ :: _, [], _, h, _, _ => h.elim
  | _ :: _, _ :: _, [], h, _, _ => h.elim
theorem HdsOk.nil : HdsOk Γ F σ S H [] [] [] := ⟨True.intro, List.nodup_nil, by simp⟩
theorem HdsOk.cons {s : Sl} {v : V} {l : List Addr} {ss : List Sl} {vs : List V} {ls : List (List Addr)} {F1 : List (List Addr)} {H1 : Hp} (h : HdOk Γ F σ S H s v l) (r : HdsOk Γ F σ S H ss vs ls)
    (h1 : ∀ a ∈ l, a ∉ F1.flatten ∧ H1 a ≠ none) (h2 : ∀ a ∈ ls.flatten, a ∈ F1.flatten ∨ H1 a = none) : HdsOk Γ F σ S H (s :: ss) (v :: vs) (l :: ls) := by
  refine ⟨⟨h.r, r.r⟩, ?_, fun a ha => ?_⟩
  · rw [List.flatten_cons]
    refine List.nodup_append.mpr ⟨h.nd, r.nd, fun a ha b hb e => ?_⟩
    subst e
    rcases h2 a hb with z | z
    · exact (h1 a ha).1 z
    · exact (h1 a ha).2 z
  · rw [List.flatten_cons] at ha
    rcases List.mem_append.mp ha with ha | ha
    · exact h.off a ha
    · exact r.off a ha
theorem HdsOk.head {s : Sl} {v : V} {l : List Addr} {ss : List Sl} {vs : List V} {ls : List (List Addr)} (h : HdsOk Γ F σ S H (s :: ss) (v :: vs) (l :: ls)) : HdOk Γ F σ S H s v l := by
  obtain ⟨⟨h1, _⟩, nd, off⟩ := h
  rw [List.flatten_cons] at nd
  exact ⟨h1, (List.nodup_append.mp nd).1, fun a ha => off a (by rw [List.flatten_cons]; exact List.mem_append_left _ ha)⟩
theorem HdsOk.tail {s : Sl} {v : V} {l : List Addr} {ss : List Sl} {vs : List V} {ls : List (List Addr)} (h : HdsOk Γ F σ S H (s :: ss) (v :: vs) (l :: ls)) : HdsOk Γ F σ S H ss vs ls := by
  obtain ⟨⟨_, h1⟩, nd, off⟩ := h
  rw [List.flatten_cons] at nd
  exact ⟨h1, (List.nodup_append.mp nd).2.1, fun a ha => off a (by rw [List.flatten_cons]; exact List.mem_append_right _ ha)⟩
theorem looks_ok (I : FI Γ F ρ σ S H) : ∀ {ss : List Sl} {vs : List V} {ls : List (List Addr)} {ds : List D}, HdsOk Γ F σ S H ss vs ls → looks ρ ss = some ds → Lks Γ S H ds vs
  | [], [], [], _, _, e => by cases e; rfl
  | s :: ss, v :: vs, l :: ls, _, h, e => by
    unfold looks at e
    split at e
    · rename_i d ds e1 e2
      cases e
      exact ⟨v, vs, rfl, look_ok I h.head e1, looks_ok I h.tail e2⟩
    · cases e
  | [], [], _ :: _, _, h, _ => h.r.elim
  | [], _ :: _, _, _, h, _ => h.r.elim
  | _ :: _, [], _, _, h, _ => h.r.elim
  | _ :: _, _ :: _, [], _, h, _ => h.r.elim
theorem shs_ok : ∀ {ss : List Sl} {vs : List V} {ls : List (List Addr)} {ds : List D}, HdRs Γ σ S H ss vs ls → shs ss = some ds → Reps Γ S ds vs
  | [], [], [], _, _, e => by cases e; rfl
  | s :: ss, v :: vs, l :: ls, _, ⟨h1, h⟩, e => by
    cases s with
    | sh d =>
      cases e2 : shs ss with
      | none => simp [shs, e2] at e
      | some r =>
        simp only [shs, e2, Option.map_some, Option.some.injEq] at e
        subst e
        exact .cons h1.2 (shs_ok h e2)
    | no => cases e
    | ow d => cases e
    | br i => cases e
  | [], [], _ :: _, _, h, _ => h.elim
  | [], _ :: _, _, _, h, _ => h.elim
  | _ :: _, [], _, _, h, _ => h.elim
  | _ :: _, _ :: _, [], _, h, _ => h.elim
/-- args, then .. -/
theorem SemA.bind {F0 : List (List Addr)} {S0 H0 : Hp} {t : TA} {m : Ev (List Sl)} {k : List Sl → Ev α} {P : List V → Hp → Prop} (h : SemA Γ W t m) (hp : Later p) (I : FI Γ F ρ σ S H) (T0 : Tr F0 S0 H0 F S H) (o : Out Γ W p F0 S0 H0 σ (Ev.bind m k ρ))
    (next : ∀ ss ρ' vs ls F' S' H', FI Γ F' ρ' σ S' H' → Tr F S H F' S' H' → Tr F0 S0 H0 F' S' H' → HdsOk Γ F' σ S' H' ss vs ls → (∀ a ∈ ls.flatten, a ∈ F.flatten ∨ H a = none) → Out Γ W p F0 S0 H0 σ (k ss ρ') → P vs H') : t σ H P := by
  refine h F ρ σ S H P I ?_
  unfold Ev.bind at o
  cases e : m ρ with
  | ok s ρ' =>
    rw [e] at o
    exact fun F' S' H' I' T v l hl hd => next s ρ' v l F' S' H' I' T (T0.trans T) hd hl o
  | exc c fs ρ' => rw [e] at o; exact Out.later (p := p) (r := .exc c fs ρ') hp o T0
  | bad => rw [e] at o; exact o

theorem Sem.var {i : Nat} : Sem Γ W (tVar i) (eVar i) := by
  intro F ρ σ S H Q I o
  unfold eVar at o
  cases q : ρ[i]? with
  | none => rw [q] at o; exact o.elim
  | some s =>
    rw [q] at o
    obtain ⟨x, l, h1, h2, h3⟩ := I.all.get q
    cases s with
    | no => exact o.elim
    | br j => exact o.elim
    | sh d =>
      obtain ⟨_, v, hv, r⟩ := h3
      subst hv
      exact ⟨v, h1, o F S H I .refl v [] (by simp) (.sh r)⟩
    | ow d =>
      obtain ⟨v, hv, r⟩ := h3
      subst hv
      exact ⟨v, h1, o F S H I .refl v [] (by simp) ⟨⟨rfl, h1⟩, List.nodup_nil, by simp⟩⟩
theorem Sem.c {v : V} {d : D} (h : ∀ S, Rep Γ S d v) : Sem Γ W (tC v) (eC d) := fun F ρ σ S H Q I o => o F S H I .refl v [] (by simp) (.sh (h S))
theorem Sem.int {i : Int} : Sem Γ W (tC (.int i)) (eC (.int i)) := Sem.c fun _ => rfl
theorem Sem.bl {b : Bool} : Sem Γ W (tC (.bl b)) (eC (.bl b)) := Sem.c fun _ => rfl
theorem Sem.non : Sem Γ W (tC .non) (eC .non) := Sem.c fun _ => rfl
theorem Sem.str {x : Str} {l : List Nat} (h : x = tx l) : Sem Γ W (tC (.str x)) (eC (.str l)) := Sem.c fun _ => by rw [h]; rfl
/-- a frozen end -/
theorem Sem.fr (h : Sem Γ W t m) : Sem Γ W t (eFr m) := by
  intro F ρ σ S H Q I o
  refine h.bind pE_later I .refl o fun s ρ1 v l F1 S1 H1 I1 _ T1 hd hl o1 => ?_
  cases e : frz ρ1 s with
  | none => simp only [e] at o1; exact o1.elim
  | some q =>
    obtain ⟨d, ρ2⟩ := q
    simp only [e] at o1
    obtain ⟨F2, S2, I2, T2, r⟩ := frz_ok T1 hl I1 hd e
    exact o1 F2 S2 H1 I2 T2 v [] (by simp) (.sh r)
theorem Out.giveAt {s : Option Sl} (I : FI Γ F ρ σ S H) (o : Out Γ W (pE Γ σ Q) F S H σ (PM.giveAt ρ s)) : ∃ s', s = some s' ∧ Give Γ S H s' Q := by
  cases s with
  | none => exact o.elim
  | some s => exact ⟨s, rfl, o.give I⟩
theorem Sem.op {r : R2} {f : D → D → Option Sl} (hr : OpD Γ r f) (h1 : Sem Γ W ta m1) (h2 : Sem Γ W tb m2) : Sem Γ W (tOp r ta tb) (eOp f m1 m2) := by
  intro F ρ σ S H Q I o
  refine h1.bind pE_later I .refl o fun s1 ρ1 v1 l1 F1 S1 H1 I1 _ T1 hd1 hl1 o1 => ?_
  refine h2.bind pE_later I1 T1 o1 fun s2 ρ2 v2 l2 F2 S2 H2 I2 T2' T2 hd2 hl2 o2 => ?_
  have hd1' := hd1.go T2'
  have o3 := o2.later pE_later T2
  unfold op2 at o3
  split at o3
  · rename_i x y e1 e2
    obtain ⟨s', e3, g⟩ := o3.giveAt I2
    exact hr.run S2 H2 x y v1 v2 s' Q I2.sub (look_ok I2 hd1' e1) (look_ok I2 hd2 e2) e3 g
  · exact o3.elim
theorem Sem.un {r : V → Hp → VK → Prop} {f : D → Option Sl} (hr : UnD Γ r f) (h1 : Sem Γ W ta m1) : Sem Γ W (tUn r ta) (eUn f m1) := by
  intro F ρ σ S H Q I o
  refine h1.bind pE_later I .refl o fun s1 ρ1 v1 l1 F1 S1 H1 I1 _ T1 hd1 hl1 o1 => ?_
  have o3 := o1.later pE_later T1
  cases e : look ρ1 s1 with
  | none => simp only [e] at o3; exact o3.elim
  | some x =>
    simp only [e] at o3
    obtain ⟨s', e3, g⟩ := o3.giveAt I1
    exact hr.run S1 H1 x v1 s' Q I1.sub (look_ok I1 hd1 e) e3 g
theorem bl_ok {s : Sl} {v : V} {l : List Addr} {b : Bool} (I : FI Γ F ρ σ S H) (h : HdOk Γ F σ S H s v l) (e : bl? (look ρ s) = some b) : v = .bl b := by
  cases q : look ρ s with
  | none => rw [q] at e; cases e
  | some d =>
    rw [q] at e
    cases d with
    | bl c => cases e; exact look_ok I h q
    | _ => cases e
theorem Sem.test (h : Sem Γ W te m) : SemT Γ W (tTest te) (eTest m) := by
  intro F ρ σ S H Q I o
  refine h.bind pT_later I .refl o fun s1 ρ1 v1 l1 F1 S1 H1 I1 _ T1 hd1 hl1 o1 => ?_
  cases e : bl? (look ρ1 s1) with
  | none => simp only [e] at o1; exact o1.elim
  | some b =>
    simp only [e] at o1
    exact ⟨b, bl_ok I1 hd1 e, o1 F1 S1 H1 I1 T1⟩
theorem Sem.tB (h : Sem Γ W te m) : SemT Γ W (tB te) (eTest m) := Sem.test h
theorem SemT.and {t u : TT} {m1 m2 : Ev Bool} (h1 : SemT Γ W t m1) (h2 : SemT Γ W u m2) : SemT Γ W (tAnd t u) (eAnd m1 m2) := by
  intro F ρ σ S H Q I o
  refine h1.bind pT_later I .refl o fun b ρ1 F1 S1 H1 I1 _ T1 o1 => ?_
  cases b with
  | true =>
    show u σ H1 Q
    exact h2 _ _ _ _ _ _ I1 (o1.later pT_later T1)
  | false => exact o1 F1 S1 H1 I1 T1
theorem SemT.or {t u : TT} {m1 m2 : Ev Bool} (h1 : SemT Γ W t m1) (h2 : SemT Γ W u m2) : SemT Γ W (tOr t u) (eOr m1 m2) := by
  intro F ρ σ S H Q I o
  refine h1.bind pT_later I .refl o fun b ρ1 F1 S1 H1 I1 _ T1 o1 => ?_
  cases b with
  | false =>
    show u σ H1 Q
    exact h2 _ _ _ _ _ _ I1 (o1.later pT_later T1)
  | true => exact o1 F1 S1 H1 I1 T1
theorem SemT.not {t : TT} {m : Ev Bool} (h1 : SemT Γ W t m) : SemT Γ W (tNot t) (eNot m) := by
  intro F ρ σ S H Q I o
  exact h1.bind pT_later I .refl o fun b ρ1 F1 S1 H1 I1 _ T1 o1 => o1 F1 S1 H1 I1 T1
theorem Sem.ifE {t : TT} {c : Ev Bool} (h : SemT Γ W t c) (h1 : Sem Γ W ta m1) (h2 : Sem Γ W tb m2) : Sem Γ W (tIf t ta tb) (eIf c m1 m2) := by
  intro F ρ σ S H Q I o
  refine h.bind pE_later I .refl o fun b ρ1 F1 S1 H1 I1 _ T1 o1 => ?_
  cases b with
  | true =>
    show ta σ H1 Q
    exact h1 _ _ _ _ _ _ I1 (o1.later pE_later T1)
  | false =>
    show tb σ H1 Q
    exact h2 _ _ _ _ _ _ I1 (o1.later pE_later T1)
theorem Sem.andV (h1 : Sem Γ W ta m1) (h2 : Sem Γ W tb m2) : Sem Γ W (tAndV ta tb) (eAndV m1 m2) := by
  intro F ρ σ S H Q I o
  refine (Sem.test h1).bind pE_later I .refl o fun b ρ1 F1 S1 H1 I1 _ T1 o1 => ?_
  cases b with
  | true =>
    show tb σ H1 Q
    exact h2 _ _ _ _ _ _ I1 (o1.later pE_later T1)
  | false =>
    show Q (.bl false) H1
    exact o1 F1 S1 H1 I1 T1 _ [] (by simp) (.sh rfl)
theorem Sem.orV (h1 : Sem Γ W ta m1) (h2 : Sem Γ W tb m2) : Sem Γ W (tOrV ta tb) (eOrV m1 m2) := by
  intro F ρ σ S H Q I o
  refine (Sem.test h1).bind pE_later I .refl o fun b ρ1 F1 S1 H1 I1 _ T1 o1 => ?_
  cases b with
  | false =>
    show tb σ H1 Q
    exact h2 _ _ _ _ _ _ I1 (o1.later pE_later T1)
  | true =>
    show Q (.bl true) H1
    exact o1 F1 S1 H1 I1 T1 _ [] (by simp) (.sh rfl)
theorem Sem.notV (h1 : Sem Γ W ta m1) : Sem Γ W (tNotV ta) (eNotV m1) := by
  intro F ρ σ S H Q I o
  show ta σ H fun x H1 => ∃ c, x = .bl c ∧ Q (.bl (!c)) H1
  have e : eNotV m1 ρ = Ev.bind (eTest m1) (fun b ρ => .ok (.sh (.bl (!b))) ρ) ρ := by
    unfold eNotV eBl eNot Ev.bind
    split <;> rename_i h <;> simp only [h]
    all_goals first | rfl | skip
    · rename_i a ρ' 
      split at h <;> simp_all
    · split at h <;> simp_all
    · split at h <;> simp_all
  rw [e] at o
  exact (Sem.test h1).bind (P := fun c H1 => Q (.bl (!c)) H1) pE_later I .refl o fun b ρ1 F1 S1 H1 I1 _ T1 o1 => o1 F1 S1 H1 I1 T1 _ [] (by simp) (.sh rfl)
theorem SemA.nil : SemA Γ W tNil eNil := fun F ρ σ S H Q I o => o F S H I .refl [] [] (by simp) .nil
theorem SemA.cons {tr : TA} {ms : Ev (List Sl)} (h1 : Sem Γ W te m) (h2 : SemA Γ W tr ms) : SemA Γ W (tCons te tr) (eCons m ms) := by
  intro F ρ σ S H Q I o
  refine h1.bind pA_later I .refl o fun s1 ρ1 v1 l1 F1 S1 H1 I1 _ T1 hd1 hl1 o1 => ?_
  refine h2.bind pA_later I1 T1 o1 fun ss ρ2 vs ls F2 S2 H2 I2 T2' T2 hd2 hl2 o2 => ?_
  refine o2 F2 S2 H2 I2 T2 (v1 :: vs) (l1 :: ls) (fun a ha => ?_) (HdsOk.cons (F1 := F1) (H1 := H1) (hd1.go T2') hd2 (fun a ha => ⟨(hd1.off a ha).1, hd1.r.there a ha⟩) hl2)
  rw [List.flatten_cons] at ha
  rcases List.mem_append.mp ha with ha | ha
  · exact hl1 a ha
  · exact T1.up a (hl2 a ha)
theorem Sem.tup {t : TA} {ms : Ev (List Sl)} (h : SemA Γ W t ms) : Sem Γ W (tTup t) (eTup ms) := by
  intro F ρ σ S H Q I o
  refine h.bind pE_later I .refl o fun ss ρ1 vs ls F1 S1 H1 I1 _ T1 hd1 hl1 o1 => ?_
  cases e : shs ss with
  | none => simp only [e] at o1; exact o1.elim
  | some ds =>
    simp only [e] at o1
    split at o1
    · rename_i hz
      have r := shs_ok hd1.r e
      refine ⟨by rw [r.length]; exact okL_le hz, ?_⟩
      exact ((o1 : Out Γ W (pE Γ σ Q) F S H σ (.ok _ _)).later pE_later T1 |>.give I1).newT I1.sub r
    · exact o1.elim
theorem Sem.lst {t : TA} {ms : Ev (List Sl)} (h : SemA Γ W t ms) : Sem Γ W (tLst t) (eLst ms) := by
  intro F ρ σ S H Q I o
  refine h.bind pE_later I .refl o fun ss ρ1 vs ls F1 S1 H1 I1 _ T1 hd1 hl1 o1 => ?_
  cases e : shs ss with
  | none => simp only [e] at o1; exact o1.elim
  | some ds =>
    simp only [e] at o1
    split at o1
    · rename_i hz
      have r := shs_ok hd1.r e
      refine ⟨by rw [r.length]; exact okL_le hz, ?_⟩
      exact ((o1 : Out Γ W (pE Γ σ Q) F S H σ (.ok _ _)).later pE_later T1 |>.give I1).newL I1.sub r
    · exact o1.elim
theorem Sem.cb {r : List V → Hp → VK → Prop} {f : List D → Option Sl} {t : TA} {ms : Ev (List Sl)} (hr : CbD Γ r f) (h : SemA Γ W t ms) : Sem Γ W (tCB r t) (eCB f ms) := by
  intro F ρ σ S H Q I o
  refine h.bind pE_later I .refl o fun ss ρ1 vs ls F1 S1 H1 I1 _ T1 hd1 hl1 o1 => ?_
  cases e : looks ρ1 ss with
  | none => simp only [e] at o1; exact o1.elim
  | some ds =>
    simp only [e] at o1
    obtain ⟨s', e3, g⟩ := (o1.later pE_later T1).giveAt I1
    exact hr.run S1 H1 ds vs s' Q I1.sub (looks_ok I1 hd1 e) e3 g
end
end PM

set_option Elab.async false
set_option linter.all false
set_option maxRecDepth 100000
set_option maxHeartbeats 4000000
/-! PM, part c: statements, targets, loops, comprehensions. -/
namespace PM
open PySem PySem.Spec PyProof.Rows L2

inductive Fl where
  | nx (ρ : Env) | rt (s : Sl) (ρ : Env) | bk (ρ : Env) | ct (ρ : Env)
  | exc (c : Nat) (fs : List D) (ρ : Env) | bad
abbrev Sv := Env → Fl
def andS {α : Type} (m : Ev α) (k : α → Sv) : Sv := fun ρ => match m ρ with
  | .ok a ρ' => k a ρ'
  | .exc c fs ρ' => .exc c fs ρ'
  | .bad => .bad
def sNext : Sv := fun ρ => .nx ρ
def sSeq (a b : Sv) : Sv := fun ρ => match a ρ with
  | .nx ρ' => b ρ'
  | r => r
def sBrk : Sv := fun ρ => .bk ρ
def sCont : Sv := fun ρ => .ct ρ
def sDrop (m : Ev Sl) : Sv := andS m fun _ ρ => .nx ρ
def sRet (m : Ev Sl) : Sv := andS m fun s ρ => .rt s ρ
def sRetN : Sv := fun ρ => .rt (.sh .non) ρ
def sIf (c : Ev Bool) (a b : Sv) : Sv := andS c fun k => if k = true then a else b
/-- borrowed ones are frozen -/
def settle (ρ : Env) : Sl → Option (Sl × Env)
  | .br i => (frz ρ (.br i)).map fun q => (.sh q.1, q.2)
  | .no => none
  | s => some (s, ρ)
def setS (i : Nat) (s : Sl) : Sv := fun ρ => match settle ρ s with
  | some (s', ρ') => .nx (ρ'.set i s')
  | none => .bad
def sAsg (i : Nat) (m : Ev Sl) : Sv := andS m fun s => setS i s
/-- targets -/
abbrev Gt := D → Env → Option Env
def gtN (i : Nat) : Gt := fun d ρ => some (ρ.set i (.sh d))
def gtsN : List D → Env → Option Env
  | [], ρ => some ρ
  | _, _ => none
def gtsC (g : Gt) (r : List D → Env → Option Env) : List D → Env → Option Env
  | d :: ds, ρ => (g d ρ).bind (r ds)
  | [], _ => none
def gtT (n : Nat) (r : List D → Env → Option Env) : Gt := fun d ρ => match d with
  | .tup ds => if ds.length = n then r ds ρ else none
  | _ => none
def sAsgG (g : Gt) (m : Ev Sl) : Sv := andS (eFr m) fun s ρ => match s with
  | .sh d => (match g d ρ with
    | some ρ' => .nx ρ'
    | none => .bad)
  | _ => .bad
def sAug (i : Nat) (f : D → D → Option Sl) (m : Ev Sl) : Sv := fun ρ => match ρ[i]? with
  | some (.sh x) => andS m (fun b ρ' => match look ρ' b with
    | some y => (match f x y with
      | some (.sh z) => .nx (ρ'.set i (.sh z))
      | _ => .bad)
    | none => .bad) ρ
  | _ => .bad
/-- a for's turns -/
def forL (g : Gt) (body : Sv) : List D → Sv
  | [], ρ => .nx ρ
  | d :: ds, ρ => match g d ρ with
    | none => .bad
    | some ρ1 => match body ρ1 with
      | .nx ρ2 => forL g body ds ρ2
      | .ct ρ2 => forL g body ds ρ2
      | .bk ρ2 => .nx ρ2
      | r => r
def sFor (it : Ev (List D)) (g : Gt) (body : Sv) : Sv := andS it fun ds => forL g body ds
/-- a while's turns, at most n -/
def whileL (c : Ev Bool) (body : Sv) : Nat → Sv
  | 0, _ => .bad
  | n + 1, ρ => match c ρ with
    | .bad => .bad
    | .exc k fs ρ' => .exc k fs ρ'
    | .ok false ρ' => .nx ρ'
    | .ok true ρ' => match body ρ' with
      | .nx ρ2 => whileL c body n ρ2
      | .ct ρ2 => whileL c body n ρ2
      | .bk ρ2 => .nx ρ2
      | r => r
def sWhile (n : Nat) (c : Ev Bool) (body : Sv) : Sv := whileL c body n
def sharedAt (ρ : Env) (i : Nat) : Bool := match ρ[i]? with
  | some (.ow _) => false
  | some (.br _) => false
  | _ => true
def wipeE (ρ : Env) : List Nat → Env
  | [] => ρ
  | i :: r => (wipeE ρ r).set i .no
def restoreE (ρ0 ρ : Env) : List Nat → Env
  | [] => ρ
  | i :: r => (restoreE ρ0 ρ r).set i (ρ0[i]?.getD .no)
section
variable (Γ : Cfg) (W : WX) (A : Nat → Bool)
def Agree (σ σ' : L2.St) : Prop := σ'.length = σ.length ∧ ∀ i, A i = false → σ'[i]? = σ[i]?
def OutS (F : List (List Addr)) (S H : Hp) (σ : L2.St) (D : Ends) : Fl → Prop
  | .nx ρ' => ∀ σ' F' S' H', FI Γ F' ρ' σ' S' H' → Tr F S H F' S' H' → Agree A σ σ' → D.nx σ' H'
  | .bk ρ' => ∀ σ' F' S' H', FI Γ F' ρ' σ' S' H' → Tr F S H F' S' H' → Agree A σ σ' → D.bk σ' H'
  | .ct ρ' => ∀ σ' F' S' H', FI Γ F' ρ' σ' S' H' → Tr F S H F' S' H' → Agree A σ σ' → D.ct σ' H'
  | .rt s ρ' => ∀ v l σ' F' S' H', FI Γ F' ρ' σ' S' H' → Tr F S H F' S' H' → Agree A σ σ' → (∀ a ∈ l, a ∈ F.flatten ∨ H a = none) → HdOk Γ F' σ' S' H' s v l → D.rt v H'
  | .exc c fs ρ' => ∀ cls dd σ' F' S' H', FI Γ F' ρ' σ' S' H' → Tr F S H F' S' H' → Agree A σ σ' → (∀ d, dd = some d → d ∈ F.flatten ∨ H d = none) → XR Γ F' S' H' c fs cls dd → W cls dd σ' H'
  | .bad => False
def SemS (t : TS) (m : Sv) : Prop := ∀ F ρ σ S H D, FI Γ F ρ σ S H → OutS Γ W A F S H σ D (m ρ) → t D σ H
/-- a target -/
def SemG (g : TG) (f : Gt) : Prop := ∀ F ρ σ S H v d ρ' Q, FI Γ F ρ σ S H → Rep Γ S d v → f d ρ = some ρ' →
  (∀ σ' F', FI Γ F' ρ' σ' S H → (∀ a ∈ F'.flatten, a ∈ F.flatten) → Agree A σ σ' → Q σ' H) → g v σ H Q
def SemGs (g : TGs) (f : List D → Env → Option Env) : Prop := ∀ F ρ σ S H vs ds ρ' Q, FI Γ F ρ σ S H → Reps Γ S ds vs → f ds ρ = some ρ' →
  (∀ σ' F', FI Γ F' ρ' σ' S H → (∀ a ∈ F'.flatten, a ∈ F.flatten) → Agree A σ σ' → Q σ' H) → g vs σ H Q
/-- what J walks, while S stands -/
structure WalkD (S : Hp) (J : It) (ds : List D) : Prop where
  go : ∀ i H, i < ds.length → Ex S H → J.go i H
  stop : ∀ H, Ex S H → J.stop ds.length H
  yld : ∀ i S1 H1 x H2 d, Ex S S1 → Ex S1 H1 → ds[i]? = some d → J.yld i H1 x H2 →
    ∃ S2, Ex S1 S2 ∧ Ex H1 H2 ∧ Ex S2 H2 ∧ (∀ a, S2 a ≠ none → S1 a ≠ none ∨ H1 a = none) ∧ Rep Γ S2 d x
def pI (R : It → Hp → Prop) : Pst (List D) := fun _ _ ds _ S' H' => ∀ J, WalkD Γ S' J ds → R J H'
def SemI (t : TI) (m : Ev (List D)) : Prop := ∀ F ρ σ S H R, FI Γ F ρ σ S H → Out Γ W (pI Γ R) F S H σ (m ρ) → t σ H R
end
theorem pI_later {Γ : Cfg} {R : It → Hp → Prop} : Later (pI Γ R) := fun _ _ _ _ _ _ _ _ _ h => h

section
variable {Γ : Cfg} {W : WX} {A : Nat → Bool} {F F' F0 : List (List Addr)} {S S' S0 H H' H0 : Hp} {ρ ρ' : Env} {σ σ' σ0 : L2.St} {D : Ends} {t u : TS} {te : TE} {m : Ev Sl} {a b : Sv}
theorem Agree.refl : Agree A σ σ := ⟨rfl, fun _ _ => rfl⟩
theorem Agree.trans {σ2 : L2.St} (h : Agree A σ σ') (k : Agree A σ' σ2) : Agree A σ σ2 := ⟨k.1.trans h.1, fun i hi => (k.2 i hi).trans (h.2 i hi)⟩
theorem Agree.set {i : Nat} {x : Option V} (h : A i = true) : Agree A σ (σ.set i x) := ⟨List.length_set, fun j hj => by
  rw [List.getElem?_set_ne]
  intro e
  rw [e, hj] at h
  cases h⟩
theorem OutS.later {r : Fl} (h : OutS Γ W A F S H σ D r) (t : Tr F S H F' S' H') (g : Agree A σ σ') : OutS Γ W A F' S' H' σ' D r := by
  cases r with
  | nx ρ' => exact fun σ2 F2 S2 H2 I T G => h σ2 F2 S2 H2 I (t.trans T) (g.trans G)
  | bk ρ' => exact fun σ2 F2 S2 H2 I T G => h σ2 F2 S2 H2 I (t.trans T) (g.trans G)
  | ct ρ' => exact fun σ2 F2 S2 H2 I T G => h σ2 F2 S2 H2 I (t.trans T) (g.trans G)
  | rt s ρ' => exact fun v l σ2 F2 S2 H2 I T G hl hd => h v l σ2 F2 S2 H2 I (t.trans T) (g.trans G) (fun a ha => t.up a (hl a ha)) hd
  | exc c fs ρ' => exact fun cls dd σ2 F2 S2 H2 I T G hl x => h cls dd σ2 F2 S2 H2 I (t.trans T) (g.trans G) (fun a ha => t.up a (hl a ha)) x
  | bad => exact h
theorem OutS.exc_of {α : Type} {p : Pst α} {c : Nat} {fs : List PM.D} (h : OutS Γ W A F S H σ D (.exc c fs ρ)) : Out Γ W p F S H σ (.exc c fs ρ) :=
  fun cls dd F2 S2 H2 I T hl x => h cls dd σ F2 S2 H2 I T .refl hl x
theorem Sem.thenS {k : Sl → Sv} {P : VK} (h : Sem Γ W te m) (I : FI Γ F ρ σ S H) (o : OutS Γ W A F S H σ D (andS m k ρ))
    (next : ∀ s ρ' v l F' S' H', FI Γ F' ρ' σ S' H' → Tr F S H F' S' H' → HdOk Γ F' σ S' H' s v l → (∀ a ∈ l, a ∈ F.flatten ∨ H a = none) → OutS Γ W A F S H σ D (k s ρ') → P v H') : te σ H P := by
  refine h F ρ σ S H P I ?_
  unfold andS at o
  cases e : m ρ with
  | ok s ρ' =>
    simp only [e] at o
    exact fun F' S' H' I' T v l hl hd => next s ρ' v l F' S' H' I' T hd hl o
  | exc c fs ρ' => simp only [e] at o; exact o.exc_of
  | bad => simp only [e] at o; exact o
theorem SemT.thenS {tt : TT} {m : Ev Bool} {k : Bool → Sv} {P : Bool → Hp → Prop} (h : SemT Γ W tt m) (I : FI Γ F ρ σ S H) (o : OutS Γ W A F S H σ D (andS m k ρ))
    (next : ∀ s ρ' F' S' H', FI Γ F' ρ' σ S' H' → Tr F S H F' S' H' → OutS Γ W A F S H σ D (k s ρ') → P s H') : tt σ H P := by
  refine h F ρ σ S H P I ?_
  unfold andS at o
  cases e : m ρ with
  | ok s ρ' =>
    simp only [e] at o
    exact fun F' S' H' I' T => next s ρ' F' S' H' I' T o
  | exc c fs ρ' => simp only [e] at o; exact o.exc_of
  | bad => simp only [e] at o; exact o
theorem SemI.thenS {ti : TI} {m : Ev (List PM.D)} {k : List PM.D → Sv} {P : It → Hp → Prop} (h : SemI Γ W ti m) (I : FI Γ F ρ σ S H) (o : OutS Γ W A F S H σ D (andS m k ρ))
    (next : ∀ s ρ' F' S' H', FI Γ F' ρ' σ S' H' → Tr F S H F' S' H' → OutS Γ W A F S H σ D (k s ρ') → ∀ J, WalkD Γ S' J s → P J H') : ti σ H P := by
  refine h F ρ σ S H P I ?_
  unfold andS at o
  cases e : m ρ with
  | ok s ρ' =>
    simp only [e] at o
    exact fun F' S' H' I' T J w => next s ρ' F' S' H' I' T o J w
  | exc c fs ρ' => simp only [e] at o; exact o.exc_of
  | bad => simp only [e] at o; exact o

theorem SemS.next : SemS Γ W A tNext sNext := fun F ρ σ S H D I o => o σ F S H I .refl .refl
theorem SemS.brk : SemS Γ W A tBreak sBrk := fun F ρ σ S H D I o => o σ F S H I .refl .refl
theorem SemS.cont : SemS Γ W A tCont sCont := fun F ρ σ S H D I o => o σ F S H I .refl .refl
theorem SemS.seq (h1 : SemS Γ W A t a) (h2 : SemS Γ W A u b) : SemS Γ W A (tSeq t u) (sSeq a b) := by
  intro F ρ σ S H D I o
  refine h1 F ρ σ S H { D with nx := u D } I ?_
  unfold sSeq at o
  cases e : a ρ with
  | nx ρ' =>
    simp only [e] at o
    exact fun σ' F' S' H' I' T G => h2 F' ρ' σ' S' H' D I' (o.later T G)
  | rt s ρ' => simp only [e] at o; exact o
  | bk ρ' => simp only [e] at o; exact o
  | ct ρ' => simp only [e] at o; exact o
  | exc c fs ρ' => simp only [e] at o; exact o
  | bad => simp only [e] at o; exact o
theorem Sem.drop (h : Sem Γ W te m) : SemS Γ W A (tDrop te) (sDrop m) := by
  intro F ρ σ S H D I o
  exact h.thenS I o fun s ρ1 v l F1 S1 H1 I1 T1 _ _ o1 => o1 σ F1 S1 H1 I1 T1 .refl
theorem Sem.ret (h : Sem Γ W te m) : SemS Γ W A (tRet te) (sRet m) := by
  intro F ρ σ S H D I o
  exact h.thenS I o fun s ρ1 v l F1 S1 H1 I1 T1 hd hl o1 => o1 v l σ F1 S1 H1 I1 T1 .refl hl hd
theorem SemS.retN : SemS Γ W A tRetN sRetN := fun F ρ σ S H D I o => o .non [] σ F S H I .refl .refl (by simp) (.sh rfl)
theorem SemS.ifS {c : TT} {mc : Ev Bool} (hc : SemT Γ W c mc) (h1 : SemS Γ W A t a) (h2 : SemS Γ W A u b) : SemS Γ W A (tIfS c t u) (sIf mc a b) := by
  intro F ρ σ S H D I o
  refine hc.thenS I o fun k ρ1 F1 S1 H1 I1 T1 o1 => ?_
  cases k with
  | true =>
    show t D σ H1
    exact h1 _ _ _ _ _ _ I1 (o1.later T1 .refl)
  | false =>
    show u D σ H1
    exact h2 _ _ _ _ _ _ I1 (o1.later T1 .refl)

/-! ### stores -/
theorem mem_set {l : List Addr} {a : Addr} : ∀ {F : List (List Addr)} {i : Nat}, a ∈ (F.set i l).flatten → a ∈ l ∨ a ∈ F.flatten
  | [], _, h => .inr h
  | k :: F, 0, h => by
    rw [List.set_cons_zero, List.flatten_cons] at h
    rw [List.flatten_cons]
    exact (List.mem_append.mp h).imp id (List.mem_append_right _)
  | k :: F, i + 1, h => by
    rw [List.set_cons_succ, List.flatten_cons] at h
    rw [List.flatten_cons]
    rcases List.mem_append.mp h with h | h
    · exact .inr (List.mem_append_left _ h)
    · exact (mem_set h).imp id (List.mem_append_right _)
theorem nodup_set {l : List Addr} (hl : l.Nodup) : ∀ {F : List (List Addr)} {i : Nat}, F.flatten.Nodup → (∀ a ∈ l, a ∉ F.flatten) → (F.set i l).flatten.Nodup
  | [], _, h, _ => h
  | k :: F, 0, h, n => by
    rw [List.set_cons_zero, List.flatten_cons]
    rw [List.flatten_cons] at h
    exact List.nodup_append.mpr ⟨hl, (List.nodup_append.mp h).2.1, fun a ha b hb e => n a ha (by rw [List.flatten_cons]; exact List.mem_append_right _ (e ▸ hb))⟩
  | k :: F, i + 1, h, n => by
    rw [List.set_cons_succ, List.flatten_cons]
    rw [List.flatten_cons] at h
    obtain ⟨h1, h2, h3⟩ := List.nodup_append.mp h
    refine List.nodup_append.mpr ⟨h1, nodup_set hl h2 fun a ha z => n a ha (by rw [List.flatten_cons]; exact List.mem_append_right _ z), fun a ha b hb e => ?_⟩
    subst e
    rcases mem_set (F := F) (i := i) hb with z | z
    · exact n a z (by rw [List.flatten_cons]; exact List.mem_append_left _ ha)
    · exact h3 a ha a z rfl
/-- a settled value goes into slot i -/
theorem FI.set {i : Nat} {s : Sl} {v : V} {l : List Addr} (I : FI Γ F ρ σ S H) (h : HdOk Γ F σ S H s v l) (hs : ∀ j, s ≠ .br j) : FI Γ (F.set i l) (ρ.set i s) (σ.set i (some v)) S H where
  sub := I.sub
  all := I.all.set i (by
    have r := h.r
    cases s with
    | no => exact r.elim
    | sh d => exact ⟨r.1, v, rfl, r.2⟩
    | ow d => exact ⟨v, rfl, r⟩
    | br j => exact absurd rfl (hs j))
  nd := nodup_set h.nd I.nd fun a ha => (h.off a ha).1
  off := fun a ha => by
    rcases mem_set (F := F) (i := i) ha with z | z
    · exact (h.off a z).2
    · exact I.off a z
theorem Tr.sub {F1 : List (List Addr)} (t : Tr F0 S0 H0 F S H) (h : ∀ a ∈ F1.flatten, a ∈ F0.flatten ∨ H0 a = none) : Tr F0 S0 H0 F1 S H := ⟨t.st, t.keep, t.dom, h⟩
theorem settle_ok {s s' : Sl} {v : V} {l : List Addr} (T : Tr F0 S0 H0 F S H) (hl : ∀ a ∈ l, a ∈ F0.flatten ∨ H0 a = none) (I : FI Γ F ρ σ S H) (h : HdOk Γ F σ S H s v l) (e : settle ρ s = some (s', ρ')) :
    ∃ F' S' l', FI Γ F' ρ' σ S' H ∧ Tr F0 S0 H0 F' S' H ∧ HdOk Γ F' σ S' H s' v l' ∧ (∀ a ∈ l', a ∈ F0.flatten ∨ H0 a = none) ∧ ∀ j, s' ≠ .br j := by
  cases s with
  | no => cases e
  | sh d => cases e; exact ⟨F, S, l, I, T, h, hl, fun j q => nomatch q⟩
  | ow d => cases e; exact ⟨F, S, l, I, T, h, hl, fun j q => nomatch q⟩
  | br i =>
    dsimp only [settle] at e
    cases q : PM.frz ρ (.br i) with
    | none => rw [q] at e; cases e
    | some z =>
      obtain ⟨d, ρ2⟩ := z
      rw [q] at e
      cases e
      obtain ⟨F', S', I', T', r⟩ := frz_ok T hl I h q
      exact ⟨F', S', [], I', T', .sh r, by simp, fun j q => nomatch q⟩
theorem OutS.setS {i : Nat} {s : Sl} {v : V} {l : List Addr} (hA : A i = true) (T : Tr F0 S0 H0 F S H) (hl : ∀ a ∈ l, a ∈ F0.flatten ∨ H0 a = none) (I : FI Γ F ρ σ S H) (h : HdOk Γ F σ S H s v l)
    (o : OutS Γ W A F0 S0 H0 σ D (PM.setS i s ρ)) : D.nx (σ.set i (some v)) H := by
  unfold PM.setS at o
  cases e : settle ρ s with
  | none => simp only [e] at o; exact o.elim
  | some q =>
    obtain ⟨s', ρ'⟩ := q
    simp only [e] at o
    obtain ⟨F', S', l', I', T', h', hl', nb⟩ := settle_ok T hl I h e
    refine o _ (F'.set i l') S' H (I'.set h' nb) (T'.sub fun a ha => ?_) (.set hA)
    rcases mem_set (F := F') (i := i) ha with z | z
    · exact hl' a z
    · exact T'.fsub a z
theorem Sem.asg {i : Nat} (hA : A i = true) (h : Sem Γ W te m) : SemS Γ W A (tAsg te (gName i)) (sAsg i m) := by
  intro F ρ σ S H D I o
  exact h.thenS I o fun s ρ1 v l F1 S1 H1 I1 T1 hd hl o1 => OutS.setS hA T1 hl I1 hd o1

/-! ### targets -/
theorem SemG.name {i : Nat} (hA : A i = true) : SemG Γ A (gName i) (gtN i) := by
  intro F ρ σ S H v d ρ' Q I r e k
  cases e
  have I2 := I.set (i := i) (HdOk.sh (F := F) (σ := σ) (H := H) r) (fun j q => nomatch q)
  exact k _ _ I2 (fun a ha => mem_set_nil ha) (.set hA)
theorem SemGs.nil : SemGs Γ A gNil gtsN := by
  intro F ρ σ S H vs ds ρ' Q I r e k
  cases ds with
  | nil =>
    cases e
    exact ⟨r, k σ F I (fun _ h => h) .refl⟩
  | cons d ds => cases e
theorem SemGs.cons {g : TG} {gs : TGs} {f : Gt} {fs : List PM.D → Env → Option Env} (h1 : SemG Γ A g f) (h2 : SemGs Γ A gs fs) : SemGs Γ A (gCons g gs) (gtsC f fs) := by
  intro F ρ σ S H vs ds ρ' Q I r e k
  cases ds with
  | nil => cases e
  | cons d ds =>
    obtain ⟨v, w, rfl, r1, r2⟩ := r
    dsimp only [gtsC] at e
    cases q : f d ρ with
    | none => rw [q] at e; cases e
    | some ρ1 =>
      rw [q] at e
      refine ⟨v, w, rfl, h1 F ρ σ S H v d ρ1 _ I r1 q fun σ1 F1 I1 s1 G1 => ?_⟩
      exact h2 F1 ρ1 σ1 S H w ds ρ' Q I1 r2 e fun σ2 F2 I2 s2 G2 => k σ2 F2 I2 (fun a ha => s1 a (s2 a ha)) (G1.trans G2)
theorem SemG.tup {gs : TGs} {fs : List PM.D → Env → Option Env} {n : Nat} (h : SemGs Γ A gs fs) : SemG Γ A (gTup Γ.K n gs) (gtT n fs) := by
  intro F ρ σ S H v d ρ' Q I r e k
  cases d with
  | tup ds =>
    obtain ⟨a, vs, rfl, h1, h2⟩ := r
    dsimp only [gtT] at e
    split at e
    · rename_i hn
      exact ⟨a, vs, rfl, .inl (.inl (I.sub _ _ h1)), by rw [h2.length]; exact hn, h F ρ σ S H vs ds ρ' Q I h2 e k⟩
    · cases e
  | _ => cases e
theorem Sem.asgG {g : TG} {f : Gt} (hg : SemG Γ A g f) (h : Sem Γ W te m) : SemS Γ W A (tAsg te g) (sAsgG f m) := by
  intro F ρ σ S H D I o
  refine (Sem.fr h).thenS I o fun s ρ1 v l F1 S1 H1 I1 T1 hd hl o1 => ?_
  cases s with
  | sh d =>
    cases e : f d ρ1 with
    | none => simp only [e] at o1; exact o1.elim
    | some ρ2 =>
      simp only [e] at o1
      exact hg F1 ρ1 σ S1 H1 v d ρ2 D.nx I1 hd.r.2 e fun σ2 F2 I2 s2 G2 => o1 σ2 F2 S1 H1 I2 (T1.sub fun a ha => T1.fsub a (s2 a ha)) G2
  | no => exact o1.elim
  | ow d => exact o1.elim
  | br i => exact o1.elim
theorem Sem.aug {i : Nat} {ti : TIp} {f : PM.D → PM.D → Option Sl} (hA : A i = true) (hr : OpD Γ ti f) (h : Sem Γ W te m) : SemS Γ W A (tAug i te ti) (sAug i f m) := by
  intro F ρ σ S H D I o
  unfold sAug at o
  cases q : ρ[i]? with
  | none => simp only [q] at o; exact o.elim
  | some s =>
    cases s with
    | sh x =>
      simp only [q] at o
      obtain ⟨x', l0, h1, h2, _, v0, rfl, r0⟩ := I.all.get q
      refine ⟨v0, h1, h.thenS I o fun s ρ1 v l F1 S1 H1 I1 T1 hd hl o1 => ?_⟩
      cases e : look ρ1 s with
      | none => simp only [e] at o1; exact o1.elim
      | some y =>
        simp only [e] at o1
        split at o1
        · rename_i z ez
          refine hr.run S1 H1 x y v0 v (.sh z) _ I1.sub (Lk.of_rep I1.sub (Rep.ex T1.st _ _ r0)) (look_ok I1 hd e) ez ?_
          intro w lw S2 H2 g1 g2 g3 g4 g5 g6 g7
          have I2 := I1.ext g1 g2 g3 g4
          have T2 := T1.trans (Tr.ext (F := F1) g1 g2 g4)
          obtain ⟨e1, r1⟩ := g7
          have I3 := I2.set (i := i) (HdOk.sh (F := F1) (σ := σ) (H := H2) r1) (fun j q => nomatch q)
          exact o1 _ _ S2 H2 I3 (T2.sub fun a ha => T2.fsub a (mem_set_nil ha)) (.set hA)
        · exact o1.elim
    | no => simp only [q] at o; exact o.elim
    | ow d => simp only [q] at o; exact o.elim
    | br j => simp only [q] at o; exact o.elim

/-! ### for -/
theorem SemS.forS {wi : TI} {it : Ev (List PM.D)} {g : TG} {f : Gt} {tb : TS} {body : Sv} (hi : SemI Γ W wi it) (hg : SemG Γ A g f) (hb : SemS Γ W A tb body) : SemS Γ W A (tFor wi g tb) (sFor it f body) := by
  intro F ρ σ S H D I o
  refine hi.thenS I o fun ds ρ1 F1 S1 H1 I1 T1 o1 J w => ?_
  refine ⟨fun i m σ' H' => m = ds.length - i ∧ i ≤ ds.length ∧ ∃ F' ρ' S', FI Γ F' ρ' σ' S' H' ∧ Tr F1 S1 H1 F' S' H' ∧ Agree A σ σ' ∧ OutS Γ W A F S H σ D (forL f body (ds.drop i) ρ'),
    ⟨ds.length, by simp, Nat.zero_le _, F1, ρ1, S1, I1, .refl, .refl, by rw [List.drop_zero]; exact o1⟩, ?_⟩
  rintro i m σ' H' ⟨rfl, hi', F', ρ', S', I', T', G', o'⟩
  by_cases hlt : i < ds.length
  · have ed : ds.drop i = ds[i] :: ds.drop (i + 1) := List.drop_eq_getElem_cons hlt
    rw [ed] at o'
    refine .inr ⟨w.go i H' hlt (T'.st.trans I'.sub), fun σ2 H2 => ∃ F2 ρ2 S2, FI Γ F2 ρ2 σ2 S2 H2 ∧ Tr F1 S1 H1 F2 S2 H2 ∧ Agree A σ σ2 ∧ OutS Γ W A F S H σ D (forL f body (ds.drop (i + 1)) ρ2), ?_, ?_⟩
    · rintro σ2 H2 ⟨F2, ρ2, S2, I2, T2, G2, o2⟩
      exact ⟨ds.length - (i + 1), by omega, rfl, hlt, F2, ρ2, S2, I2, T2, G2, o2⟩
    · intro x H2 hy
      obtain ⟨S2, y1, y2, y3, y4, r⟩ := w.yld i S' H' x H2 ds[i] T'.st I'.sub (List.getElem?_eq_getElem hlt) hy
      have I2 := I'.ext y1 y2 y3 y4
      have T2 := T'.trans (Tr.ext (F := F') y1 y2 y4)
      dsimp only [forL] at o'
      cases e : f ds[i] ρ' with
      | none => simp only [e] at o'; exact o'.elim
      | some ρ2 =>
        simp only [e] at o'
        refine hg F' ρ' σ' S2 H2 x ds[i] ρ2 _ I2 r e fun σ3 F3 I3 s3 G3 => ?_
        have T3 : Tr F1 S1 H1 F3 S2 H2 := T2.sub fun a ha => T2.fsub a (s3 a ha)
        refine hb F3 ρ2 σ3 S2 H2 _ I3 ?_
        have G4 := G'.trans G3
        have T4 := T1.trans T3
        cases e2 : body ρ2 with
        | nx ρ3 => simp only [e2] at o'; exact fun σ4 F4 S4 H4 I4 T G => ⟨F4, ρ3, S4, I4, T3.trans T, G4.trans G, o'⟩
        | ct ρ3 => simp only [e2] at o'; exact fun σ4 F4 S4 H4 I4 T G => ⟨F4, ρ3, S4, I4, T3.trans T, G4.trans G, o'⟩
        | bk ρ3 => simp only [e2] at o'; exact fun σ4 F4 S4 H4 I4 T G => o' σ4 F4 S4 H4 I4 (T4.trans T) (G4.trans G)
        | rt s ρ3 => simp only [e2] at o'; exact o'.later T4 G4
        | exc c fs ρ3 => simp only [e2] at o'; exact o'.later T4 G4
        | bad => simp only [e2] at o'; exact o'
  · have ei : i = ds.length := by omega
    subst ei
    rw [List.drop_length] at o'
    exact .inl ⟨w.stop H' (T'.st.trans I'.sub), (o' : OutS Γ W A F S H σ D (.nx ρ')) σ' F' S' H' I' (T1.trans T') G'⟩
/-! ### while -/
theorem SemS.whileS {n : Nat} {c : TT} {mc : Ev Bool} {tb : TS} {body : Sv} (hc : SemT Γ W c mc) (hb : SemS Γ W A tb body) : SemS Γ W A (tWhile c tb) (sWhile n mc body) := by
  intro F ρ σ S H D I o
  refine ⟨fun m σ' H' => ∃ F' ρ' S', FI Γ F' ρ' σ' S' H' ∧ Tr F S H F' S' H' ∧ Agree A σ σ' ∧ OutS Γ W A F S H σ D (whileL mc body m ρ'), ⟨n, F, ρ, S, I, .refl, .refl, o⟩, ?_⟩
  rintro m σ' H' ⟨F', ρ', S', I', T', G', o'⟩
  cases m with
  | zero => exact o'.elim
  | succ m =>
    dsimp only [whileL] at o'
    refine hc F' ρ' σ' S' H' _ I' ?_
    cases e : mc ρ' with
    | bad => simp only [e] at o'; exact o'.elim
    | exc k fs ρ2 => simp only [e] at o'; exact (o'.later T' G').exc_of
    | ok b ρ2 =>
      intro F2 S2 H2 I2 T2
      cases b with
      | false =>
        simp only [e] at o'
        show D.nx σ' H2
        exact o' σ' F2 S2 H2 I2 (T'.trans T2) G'
      | true =>
        simp only [e] at o'
        refine ⟨fun σ3 H3 => ∃ F3 ρ3 S3, FI Γ F3 ρ3 σ3 S3 H3 ∧ Tr F S H F3 S3 H3 ∧ Agree A σ σ3 ∧ OutS Γ W A F S H σ D (whileL mc body m ρ3), fun σ3 H3 h3 => ⟨m, Nat.lt_succ_self m, h3⟩, ?_⟩
        have T3 := T'.trans T2
        refine hb F2 ρ2 σ' S2 H2 _ I2 ?_
        cases e2 : body ρ2 with
        | nx ρ3 => simp only [e2] at o'; exact fun σ4 F4 S4 H4 I4 T G => ⟨F4, ρ3, S4, I4, T3.trans T, G'.trans G, o'⟩
        | ct ρ3 => simp only [e2] at o'; exact fun σ4 F4 S4 H4 I4 T G => ⟨F4, ρ3, S4, I4, T3.trans T, G'.trans G, o'⟩
        | bk ρ3 => simp only [e2] at o'; exact fun σ4 F4 S4 H4 I4 T G => o' σ4 F4 S4 H4 I4 (T3.trans T) (G'.trans G)
        | rt s ρ3 => simp only [e2] at o'; exact o'.later T3 G'
        | exc c fs ρ3 => simp only [e2] at o'; exact o'.later T3 G'
        | bad => simp only [e2] at o'; exact o'
end
end PM

set_option Elab.async false
set_option linter.all false
set_option maxRecDepth 100000
set_option maxHeartbeats 4000000
/-! PM, part d: comprehensions, calls, defs. -/
namespace PM
open PySem PySem.Spec PyProof.Rows L2

/-! ### comprehensions -/
def lcT (own : List Nat) (g : Gt) (t : Ev Bool) (elt : Ev Sl) : List D → List D → Ev (List D)
  | [], acc, ρ => .ok acc ρ
  | d :: ds, acc, ρ => match g d ρ with
    | none => .bad
    | some ρ1 => match t ρ1 with
      | .ok false ρ2 => lcT own g t elt ds acc (wipeE ρ2 own)
      | .ok true ρ2 => (match eFr elt ρ2 with
        | .ok (.sh e) ρ3 => if okL acc.length = true then lcT own g t elt ds (acc ++ [e]) (wipeE ρ3 own) else .bad
        | _ => .bad)
      | _ => .bad
def eComp (it : Ev (List D)) (own : List Nat) (g : Gt) (t : Ev Bool) (elt : Ev Sl) : Ev Sl := Ev.bind it fun ds ρ =>
  if own.all (sharedAt ρ) = true then
    match lcT own g t elt ds [] (wipeE ρ own) with
    | .ok acc ρ' => .ok (.ow (.lst acc)) (restoreE ρ ρ' own)
    | _ => .bad
  else .bad
def eYes : Ev Bool := fun ρ => .ok true ρ
abbrev W0 : WX := fun _ _ _ _ => False
section
variable {Γ : Cfg} {W : WX} {A : Nat → Bool} {F F' F0 : List (List Addr)} {S S' S0 H H' H0 : Hp} {ρ ρ' : Env} {σ σ' : L2.St}
theorem FI.setNo (I : FI Γ F ρ σ S H) (i : Nat) (x : Option V) : FI Γ (F.set i []) (ρ.set i .no) (σ.set i x) S H where
  sub := I.sub
  all := I.all.set i rfl
  nd := I.nd.sublist set_nil_sub
  off := fun a ha => I.off a (mem_set_nil ha)
def wipeF (F : List (List Addr)) : List Nat → List (List Addr)
  | [] => F
  | i :: r => (wipeF F r).set i []
theorem wipeF_sub : ∀ {own : List Nat} {a : Addr}, a ∈ (wipeF F own).flatten → a ∈ F.flatten
  | [], _, h => h
  | _ :: _, _, h => wipeF_sub (mem_set_nil h)
theorem FI.wipe (I : FI Γ F ρ σ S H) : ∀ own : List Nat, FI Γ (wipeF F own) (wipeE ρ own) (L2.wipe σ own) S H
  | [] => I
  | i :: r => (FI.wipe I r).setNo i none
theorem wipe_agree {own : List Nat} {σ1 : L2.St} (g : Agree (fun i => own.contains i) (L2.wipe σ own) σ1) : L2.wipe σ1 own = L2.wipe σ own := by
  have hl : σ1.length = σ.length := g.1.trans (wipe_length σ own)
  refine List.ext_getElem? fun j => ?_
  by_cases h : j ∈ own
  · have none_at : ∀ (τ : L2.St), (∀ v : V, (L2.wipe τ own)[j]? ≠ some (some v)) := fun τ v q => (wipe_some q).2 h
    have lt1 : ∀ (τ : L2.St), j < τ.length → (L2.wipe τ own)[j]? = some none := fun τ hj => by
      have q : j < (L2.wipe τ own).length := by rw [wipe_length]; exact hj
      cases e : (L2.wipe τ own)[j] with
      | none => rw [List.getElem?_eq_getElem q, e]
      | some v => exact absurd (by rw [List.getElem?_eq_getElem q, e]) (none_at τ v)
    by_cases hj : j < σ.length
    · rw [lt1 σ hj, lt1 σ1 (by omega)]
    · rw [List.getElem?_eq_none (by rw [wipe_length]; omega), List.getElem?_eq_none (by rw [wipe_length]; omega)]
  · rw [wipe_out h, g.2 j (by simpa using h)]
theorem set_get_self {α : Type} {l : List α} {i : Nat} {x : α} (h : l[i]? = some x) : l.set i x = l := by
  refine List.ext_getElem? fun j => ?_
  by_cases q : i = j
  · subst q
    obtain ⟨h1, h2⟩ := List.getElem?_eq_some_iff.mp h
    rw [List.getElem?_set_self h1, h]
  · rw [List.getElem?_set_ne q]
/-- the block's names come back -/
theorem FI.restore {ρ0 : Env} {σ0 : L2.St} (I0 : FI Γ F0 ρ0 σ0 S0 H0) (I : FI Γ F ρ σ S H) (e : Ex S0 S) (hlen : σ.length = σ0.length) :
    ∀ own : List Nat, own.all (sharedAt ρ0) = true → ∃ F1 σ1, FI Γ F1 (restoreE ρ0 ρ own) σ1 S H ∧ (∀ a ∈ F1.flatten, a ∈ F.flatten) ∧ σ1.length = σ.length ∧ (∀ i, i ∉ own → σ1[i]? = σ[i]?) ∧ (∀ i ∈ own, σ1[i]? = σ0[i]?)
  | [], _ => ⟨F, σ, I, fun _ h => h, rfl, fun _ _ => rfl, fun _ h => nomatch h⟩
  | i :: r, h => by
    rw [List.all_cons, Bool.and_eq_true] at h
    obtain ⟨F1, σ1, I1, s1, l1, o1, k1⟩ := FI.restore I0 I e hlen r h.2
    by_cases hi : i < σ0.length
    · have hi0 : i < ρ0.length := by rw [I0.all.len.1]; exact hi
      obtain ⟨x, l, hx, hl, hs⟩ := I0.all.get (List.getElem?_eq_getElem hi0)
      have hg : ρ0[i]?.getD .no = ρ0[i] := by rw [List.getElem?_eq_getElem hi0]; rfl
      have key : SlR Γ S H ρ0[i] x [] := by
        have hsh := h.1
        unfold sharedAt at hsh
        rw [List.getElem?_eq_getElem hi0] at hsh
        cases q : ρ0[i] with
        | no => exact rfl
        | sh d =>
          rw [q] at hs
          obtain ⟨_, v, hv, rr⟩ := hs
          exact ⟨rfl, v, hv, Rep.ex e _ _ rr⟩
        | ow d => rw [q] at hsh; cases hsh
        | br j => rw [q] at hsh; cases hsh
      refine ⟨F1.set i [], σ1.set i x, ⟨I1.sub, ?_, I1.nd.sublist set_nil_sub, fun a ha => I1.off a (mem_set_nil ha)⟩, fun a ha => s1 a (mem_set_nil ha), by rw [List.length_set, l1], fun j hj => ?_, fun j hj => ?_⟩
      · show All3 Γ S H ((restoreE ρ0 ρ r).set i (ρ0[i]?.getD .no)) _ _
        rw [hg]
        exact I1.all.set i key
      · have h1 : i ≠ j := fun z => hj (by rw [z]; exact List.mem_cons_self)
        rw [List.getElem?_set_ne h1]
        exact o1 j fun z => hj (List.mem_cons_of_mem _ z)
      · by_cases q : i = j
        · subst q
          rw [List.getElem?_set_self (by rw [l1, hlen]; exact hi), hx]
        · rw [List.getElem?_set_ne q]
          rcases List.mem_cons.mp hj with z | z
          · exact absurd z.symm q
          · exact k1 j z
    · have e1 : restoreE ρ0 ρ (i :: r) = restoreE ρ0 ρ r := List.set_eq_of_length_le (by rw [I1.all.len.1, l1, hlen]; omega)
      rw [e1]
      refine ⟨F1, σ1, I1, s1, l1, fun j hj => o1 j fun z => hj (List.mem_cons_of_mem _ z), fun j hj => ?_⟩
      rcases List.mem_cons.mp hj with z | z
      · rw [z, List.getElem?_eq_none (by omega), List.getElem?_eq_none (by omega)]
      · exact k1 j z
/-- an object in flight at D is written -/
theorem FI.updD (I : FI Γ F ρ σ S H) {D : Addr} {ob : HO} (h1 : D ∉ F.flatten) (h2 : S D = none) : FI Γ F ρ σ S (upd H D ob) where
  sub := fun a o e => by
    rw [upd_ne (fun z => by rw [z, h2] at e; cases e)]; exact I.sub a o e
  all := I.all.go (Ex.refl _) fun a ha o e => by
    rw [upd_ne (fun z => h1 (by rw [← z]; exact ha))]; exact e
  nd := I.nd
  off := I.off
theorem SemT.yes : SemT Γ W tYes eYes := fun F ρ σ S H Q I o => o F S H I .refl
theorem Sem.comp {wi : TI} {it : Ev (List D)} {own : List Nat} {g : TG} {f : Gt} {tt : TT} {mt : Ev Bool} {te : TE} {m : Ev Sl} (hi : SemI Γ W wi it) (hg : SemG Γ (fun i => own.contains i) g f) (ht : SemT Γ W0 tt mt) (he : Sem Γ W0 te m) :
    Sem Γ W (tLc wi g tt te own) (eComp it own f mt m) := by
  intro F ρ σ S H Q I o
  refine hi F ρ σ S H _ I ?_
  unfold eComp Ev.bind at o
  cases e0 : it ρ with
  | bad => rw [e0] at o; exact o
  | exc c fs ρ' => rw [e0] at o; exact o
  | ok ds ρ1 =>
    simp only [e0] at o
    intro F1 S1 H1 I1 T1 J w D hD
    split at o
    · rename_i hown
      cases eL : lcT own f mt m ds [] (wipeE ρ1 own) with
      | bad => simp only [eL] at o; exact o.elim
      | exc c fs ρ' => simp only [eL] at o; exact o.elim
      | ok accF ρF =>
        simp only [eL] at o
        have nDF : D ∉ F1.flatten := fun z => I1.there D z hD
        refine ⟨fun i k Hm => k = ds.length - i ∧ i ≤ ds.length ∧ ∃ F' ρ' S' accD accV, FI Γ F' ρ' (L2.wipe σ own) S' Hm ∧ Tr F1 S1 H1 F' S' Hm ∧ Hm D = some (.lst accV) ∧ Reps Γ S' accD accV ∧ S' D = none ∧ D ∉ F'.flatten ∧ lcT own f mt m (ds.drop i) accD ρ' = .ok accF ρF, ⟨ds.length, ?_⟩, ?_⟩
        · refine ⟨by simp, Nat.zero_le _, wipeF F1 own, wipeE ρ1 own, S1, [], [], ?_, ?_, upd_same, rfl, free_sub I1.sub hD, fun z => nDF (wipeF_sub z), by rw [List.drop_zero]; exact eL⟩
          · have I2 := I1.wipe own
            exact I2.ext (Ex.refl _) (Ex.new hD) (I1.sub.trans (Ex.new hD)) fun a h => .inl h
          · exact ⟨Ex.refl _, fun a ob q _ => Ex.new hD a ob q, fun a h => .inl h, fun a ha => .inl (wipeF_sub ha)⟩
        · rintro i k Hm ⟨rfl, hi', F', ρ', S', accD, accV, I', T', hDm, hR, hSD, hFD, hL⟩
          by_cases hlt : i < ds.length
          · have ed : ds.drop i = ds[i] :: ds.drop (i + 1) := List.drop_eq_getElem_cons hlt
            rw [ed] at hL
            dsimp only [lcT] at hL
            refine .inr ⟨w.go i Hm hlt (T'.st.trans I'.sub), fun H2 => ∃ F2 ρ2 S2 accD accV, FI Γ F2 ρ2 (L2.wipe σ own) S2 H2 ∧ Tr F1 S1 H1 F2 S2 H2 ∧ H2 D = some (.lst accV) ∧ Reps Γ S2 accD accV ∧ S2 D = none ∧ D ∉ F2.flatten ∧ lcT own f mt m (ds.drop (i + 1)) accD ρ2 = .ok accF ρF, fun H2 h2 => ⟨ds.length - (i + 1), by omega, rfl, hlt, h2⟩, ?_⟩
            intro x H2 hy
            obtain ⟨S2, y1, y2, y3, y4, r⟩ := w.yld i S' Hm x H2 ds[i] T'.st I'.sub (List.getElem?_eq_getElem hlt) hy
            have I2 := I'.ext y1 y2 y3 y4
            have T2 := T'.trans (Tr.ext (F := F') y1 y2 y4)
            cases e : f ds[i] ρ' with
            | none => simp only [e] at hL; cases hL
            | some ρ2 =>
              simp only [e] at hL
              refine hg F' ρ' _ S2 H2 x ds[i] ρ2 _ I2 r e fun σ3 F3 I3 s3 G3 => ?_
              have T3 : Tr F1 S1 H1 F3 S2 H2 := T2.sub fun a ha => T2.fsub a (s3 a ha)
              have hD2 : H2 D = some (.lst accV) := y2 _ _ hDm
              have hSD2 : S2 D = none := by
                cases q : S2 D with
                | none => rfl
                | some ob =>
                  rcases y4 D (by rw [q]; simp) with z | z
                  · exact absurd hSD z
                  · rw [hDm] at z; cases z
              have hFD3 : D ∉ F3.flatten := fun z => hFD (s3 D z)
              -- D over a step
              have stay : ∀ {Fa Fb : List (List Addr)} {Sa Ha Sb Hb : Hp}, Tr Fa Sa Ha Fb Sb Hb → Ha D = some (.lst accV) → Sa D = none → D ∉ Fa.flatten → Hb D = some (.lst accV) ∧ Sb D = none ∧ D ∉ Fb.flatten := fun {Fa Fb Sa Ha Sb Hb} T a1 a2 a3 => by
                refine ⟨T.keep D _ a1 a3, ?_, fun z => ?_⟩
                · cases q : Sb D with
                  | none => rfl
                  | some ob =>
                    rcases T.dom D (by rw [q]; simp) with z | z | z
                    · exact absurd a2 z
                    · rw [a1] at z; cases z
                    · exact absurd z a3
                · rcases T.fsub D z with q | q
                  · exact a3 q
                  · rw [a1] at q; cases q
              have eW := wipe_agree G3
              refine ⟨eW, ?_⟩
              refine ht F3 ρ2 σ3 S2 H2 _ I3 ?_
              cases e3 : mt ρ2 with
              | bad => simp only [e3] at hL; cases hL
              | exc c fs ρ3 => simp only [e3] at hL; cases hL
              | ok b ρ3 =>
                intro F4 S4 H4 I4 T4
                obtain ⟨d1, d2, d3⟩ := stay T4 hD2 hSD2 hFD3
                have hR4 := Reps.ex (y1.trans T4.st) _ _ hR
                cases b with
                | false =>
                  simp only [e3] at hL
                  show ∃ F2 ρ2 S2 accD accV, _
                  have I5 := I4.wipe own
                  rw [eW] at I5
                  have T5 := T3.trans T4
                  exact ⟨wipeF F4 own, wipeE ρ3 own, S4, accD, accV, I5, T5.sub fun a ha => T5.fsub a (wipeF_sub ha), d1, hR4, d2, fun z => d3 (wipeF_sub z), hL⟩
                | true =>
                  simp only [e3] at hL
                  show te σ3 H4 _
                  refine (Sem.fr he) F4 ρ3 σ3 S4 H4 _ I4 ?_
                  cases e4 : eFr m ρ3 with
                  | bad => simp only [e4] at hL; cases hL
                  | exc c fs ρ4 => simp only [e4] at hL; cases hL
                  | ok s ρ4 =>
                    simp only [e4] at hL
                    cases s with
                    | no => cases hL
                    | ow d => cases hL
                    | br j => cases hL
                    | sh d =>
                      simp only at hL
                      split at hL
                      · rename_i hz
                        intro F5 S5 H5 I5 T5 v l hl hd
                        obtain ⟨d1, d2, d3⟩ := stay T5 d1 d2 d3
                        have hR5 := Reps.ex T5.st _ _ hR4
                        refine ⟨accV, d1, by rw [hR5.length]; exact okL_lt hz, ?_⟩
                        have I6 := (I5.wipe own).updD (D := D) (ob := .lst (accV ++ [v])) (fun z => d3 (wipeF_sub z)) d2
                        rw [eW] at I6
                        have T6 := (T3.trans T4).trans T5
                        refine ⟨wipeF F5 own, wipeE ρ4 own, S5, accD ++ [d], accV ++ [v], I6, ⟨T6.st, fun a ob q hn => ?_, T6.dom, fun a ha => T6.fsub a (wipeF_sub ha)⟩, upd_same, hR5.append (.cons hd.r.2 rfl), d2, fun z => d3 (wipeF_sub z), hL⟩
                        rw [upd_ne (fun z => by rw [z, hD] at q; cases q)]
                        exact T6.keep a ob q hn
                      · cases hL
          · have ei : i = ds.length := by omega
            subst ei
            rw [List.drop_length] at hL
            cases hL
            refine .inl ⟨w.stop Hm (T'.st.trans I'.sub), ?_⟩
            obtain ⟨F2, σ1, I2, s2, l2, o2, k2⟩ := FI.restore I1 I' T'.st (wipe_length σ own) own hown
            have es : σ1 = σ := List.ext_getElem? fun j => by
              by_cases hj : j ∈ own
              · exact k2 j hj
              · rw [o2 j hj, wipe_out hj]
            subst es
            have T2 := T1.trans T'
            refine o F2 S' Hm I2 (T2.sub fun a ha => T2.fsub a (s2 a ha)) (.ref D) [D] (fun a ha => ?_) ⟨⟨D, accV, rfl, rfl, hDm, hR⟩, by simp, fun a ha => ?_⟩
            · have z : a = D := by simpa using ha
              subst z
              exact T1.back hD
            · have z : a = D := by simpa using ha
              subst z
              exact ⟨fun z => hFD (s2 _ z), hSD⟩
    · exact o.elim
end
end PM

set_option Elab.async false
set_option linter.all false
set_option maxRecDepth 100000
set_option maxHeartbeats 4000000
/-! PM, part e: calls, defs. -/
namespace PM
open PySem PySem.Spec PyProof.Rows L2

inductive FR where
  | ok (r : Sl) (outs : List Sl)
  | exc (c : Nat) (fs : List D) (outs : List Sl)
  | bad
abbrev Fn := List Sl → FR
def argOf (ρ : Env) : Sl → Option Sl
  | .sh d => some (.sh d)
  | .ow d => some (.ow d)
  | .br i => match ρ[i]? with
    | some (.ow d) => some (.ow d)
    | some (.sh d) => some (.sh d)
    | _ => none
  | .no => none
def argsOf (ρ : Env) : List Sl → Option (List Sl)
  | [] => some []
  | s :: r => match argOf ρ s, argsOf ρ r with
    | some a, some as => some (a :: as)
    | _, _ => none
def brs : List Sl → List Nat
  | [] => []
  | .br i :: r => i :: brs r
  | _ :: r => brs r
def nodupB : List Nat → Bool
  | [] => true
  | i :: r => !r.contains i && nodupB r
def back (ρ : Env) : List Sl → List Sl → Env
  | .br i :: ss, o :: os => back (ρ.set i o) ss os
  | _ :: ss, _ :: os => back ρ ss os
  | _, _ => ρ
def callAt (f : Fn) (ρ : Env) (ss : List Sl) : Res Sl := match argsOf ρ ss with
  | none => .bad
  | some as => if nodupB (brs ss) = true then
      match f as with
      | .ok (.sh d) outs => .ok (.sh d) (back (wipeE ρ (brs ss)) ss outs)
      | .ok (.ow d) outs => .ok (.ow d) (back (wipeE ρ (brs ss)) ss outs)
      | .exc c fs outs => .exc c fs (back (wipeE ρ (brs ss)) ss outs)
      | _ => .bad
    else .bad
def eCall (f : Fn) (ms : Ev (List Sl)) : Ev Sl := Ev.bind ms fun ss ρ => callAt f ρ ss

section
variable (Γ : Cfg)
def OutF (F : List (List Addr)) (S H : Hp) (vs : List V) (Q : VK) (E : XK) : FR → Prop
  | .ok r outs => ∀ v l F' S' H', FI Γ F' outs (vs.map some) S' H' → Tr F S H F' S' H' → (∀ a ∈ l, a ∈ F.flatten ∨ H a = none) → (∀ j, r ≠ .br j) → HdOk Γ F' (vs.map some) S' H' r v l → Q v H'
  | .exc c fs outs => ∀ cls dd F' S' H', FI Γ F' outs (vs.map some) S' H' → Tr F S H F' S' H' → (∀ d, dd = some d → d ∈ F.flatten ∨ H d = none) → XR Γ F' S' H' c fs cls dd → E cls dd H'
  | .bad => False
/-- the promise of a def with this meaning -/
def spOf (n : Nat) (f : Fn) : Sp := fun vs H Q E => vs.length = n ∧ ∃ F S ss, FI Γ F ss (vs.map some) S H ∧ OutF Γ F S H vs Q E (f ss)
end
section
variable {Γ : Cfg} {W : WX} {A : Nat → Bool} {F F' F0 : List (List Addr)} {S S' S0 H H' H0 : Hp} {ρ ρ' : Env} {σ σ' : L2.St} {Q : VK}
theorem FI.setNoSame (I : FI Γ F ρ σ S H) (i : Nat) : FI Γ (F.set i []) (ρ.set i .no) σ S H := by
  by_cases hi : i < σ.length
  · have I2 := I.setNo i σ[i]
    rw [set_get_self (List.getElem?_eq_getElem hi)] at I2
    exact I2
  · have e1 : ρ.set i .no = ρ := List.set_eq_of_length_le (by rw [I.all.len.1]; omega)
    have e2 : F.set i [] = F := List.set_eq_of_length_le (by rw [I.all.len.2]; omega)
    rw [e1, e2]
    exact I
theorem FI.wipeSame (I : FI Γ F ρ σ S H) : ∀ own : List Nat, FI Γ (wipeF F own) (wipeE ρ own) σ S H
  | [] => I
  | i :: r => (FI.wipeSame I r).setNoSame i
theorem wipeF_get : ∀ {own : List Nat} {i : Nat} {l : List Addr}, (wipeF F own)[i]? = some l → l = [] ∨ (i ∉ own ∧ F[i]? = some l)
  | [], i, l, h => .inr ⟨by simp, h⟩
  | j :: r, i, l, h => by
    unfold wipeF at h
    by_cases q : j = i
    · subst q
      by_cases hj : j < (wipeF F r).length
      · rw [List.getElem?_set_self hj] at h
        exact .inl (Option.some.inj h).symm
      · rw [List.getElem?_eq_none (by simpa using hj)] at h; cases h
    · rw [List.getElem?_set_ne q] at h
      rcases wipeF_get h with z | ⟨z1, z2⟩
      · exact .inl z
      · exact .inr ⟨by simp only [List.mem_cons, not_or]; exact ⟨fun e => q e.symm, z1⟩, z2⟩
/-- two slots' addresses -/
theorem slots_apart : ∀ {F : List (List Addr)} {i j : Nat} {l k : List Addr} {a : Addr}, F.flatten.Nodup → F[i]? = some l → F[j]? = some k → a ∈ l → a ∈ k → i = j
  | [], _, _, _, _, _, _, h, _, _, _ => by cases h
  | x :: F, 0, 0, _, _, _, _, _, _, _, _ => rfl
  | x :: F, 0, j + 1, l, k, a, nd, h1, h2, m1, m2 => by
    cases h1
    rw [List.flatten_cons] at nd
    exact absurd rfl ((List.nodup_append.mp nd).2.2 a m1 a (flatten_mem (by simpa using h2) m2))
  | x :: F, i + 1, 0, l, k, a, nd, h1, h2, m1, m2 => by
    cases h2
    rw [List.flatten_cons] at nd
    exact absurd rfl ((List.nodup_append.mp nd).2.2 a m2 a (flatten_mem (by simpa using h1) m1))
  | x :: F, i + 1, j + 1, l, k, a, nd, h1, h2, m1, m2 => by
    rw [List.flatten_cons] at nd
    exact congrArg (· + 1) (slots_apart (List.nodup_append.mp nd).2.1 (by simpa using h1) (by simpa using h2) m1 m2)
theorem nodup_at : ∀ {F : List (List Addr)} {i : Nat} {l : List Addr}, F.flatten.Nodup → F[i]? = some l → l.Nodup
  | [], _, _, _, h => by cases h
  | x :: F, 0, l, nd, h => by
    cases h
    rw [List.flatten_cons] at nd
    exact (List.nodup_append.mp nd).1
  | x :: F, i + 1, l, nd, h => by
    rw [List.flatten_cons] at nd
    exact nodup_at (i := i) (List.nodup_append.mp nd).2.1 (by simpa using h)
/-- what the callee's parameters own -/
def footOf (F : List (List Addr)) : List Sl → List (List Addr) → List (List Addr)
  | .br i :: ss, _ :: ls => (F[i]?.getD []) :: footOf F ss ls
  | _ :: ss, l :: ls => l :: footOf F ss ls
  | _, _ => []
theorem footOf_mem : ∀ {ss : List Sl} {ls : List (List Addr)} {a : Addr}, a ∈ (footOf F ss ls).flatten → a ∈ ls.flatten ∨ ∃ i l, i ∈ brs ss ∧ F[i]? = some l ∧ a ∈ l
  | [], _, _, h => by simp [footOf] at h
  | _ :: _, [], a, h => by
    rename_i s ss
    cases s <;> simp [footOf] at h
  | s :: ss, l :: ls, a, h => by
    cases s with
    | br i =>
      rw [footOf, List.flatten_cons] at h
      rcases List.mem_append.mp h with h | h
      · cases q : F[i]? with
        | none => rw [q] at h; simp at h
        | some k => rw [q] at h; exact .inr ⟨i, k, by simp [brs], q, h⟩
      · rcases footOf_mem h with z | ⟨j, k, z1, z2, z3⟩
        · exact .inl (by rw [List.flatten_cons]; exact List.mem_append_right _ z)
        · exact .inr ⟨j, k, by simp [brs, z1], z2, z3⟩
    | no =>
      rw [footOf, List.flatten_cons] at h
      · rcases List.mem_append.mp h with h | h
        · exact .inl (by rw [List.flatten_cons]; exact List.mem_append_left _ h)
        · rcases footOf_mem h with z | ⟨j, k, z1, z2, z3⟩
          · exact .inl (by rw [List.flatten_cons]; exact List.mem_append_right _ z)
          · exact .inr ⟨j, k, by simpa [brs] using z1, z2, z3⟩
      · intro i z; cases z
    | sh d =>
      rw [footOf, List.flatten_cons] at h
      · rcases List.mem_append.mp h with h | h
        · exact .inl (by rw [List.flatten_cons]; exact List.mem_append_left _ h)
        · rcases footOf_mem h with z | ⟨j, k, z1, z2, z3⟩
          · exact .inl (by rw [List.flatten_cons]; exact List.mem_append_right _ z)
          · exact .inr ⟨j, k, by simpa [brs] using z1, z2, z3⟩
      · intro i z; cases z
    | ow d =>
      rw [footOf, List.flatten_cons] at h
      · rcases List.mem_append.mp h with h | h
        · exact .inl (by rw [List.flatten_cons]; exact List.mem_append_left _ h)
        · rcases footOf_mem h with z | ⟨j, k, z1, z2, z3⟩
          · exact .inl (by rw [List.flatten_cons]; exact List.mem_append_right _ z)
          · exact .inr ⟨j, k, by simpa [brs] using z1, z2, z3⟩
      · intro i z; cases z
theorem argsOf_ok (I : FI Γ F ρ σ S H) : ∀ {ss : List Sl} {vs : List V} {ls : List (List Addr)} {as : List Sl}, HdsOk Γ F σ S H ss vs ls → argsOf ρ ss = some as → nodupB (brs ss) = true →
    All3 Γ S H as (vs.map some) (footOf F ss ls) ∧ (footOf F ss ls).flatten.Nodup
  | [], [], [], _, _, e, _ => by cases e; exact ⟨True.intro, List.nodup_nil⟩
  | s :: ss, v :: vs, l :: ls, as, h, e, nb => by
    unfold argsOf at e
    split at e
    · rename_i a as' e1 e2
      cases e
      have hh := h.head
      have ht := h.tail
      have offl : ∀ x ∈ l, x ∉ ls.flatten := fun x hx z => by
        have nd := h.nd
        rw [List.flatten_cons] at nd
        exact (List.nodup_append.mp nd).2.2 x hx x z rfl
      have plain : (∀ i, s ≠ .br i) → nodupB (brs ss) = true → SlR Γ S H a (some v) l → All3 Γ S H (a :: as') ((v :: vs).map some) (l :: footOf F ss ls) ∧ (l :: footOf F ss ls).flatten.Nodup := fun hb nb r => by
        obtain ⟨i1, i2⟩ := argsOf_ok I ht e2 nb
        refine ⟨⟨r, i1⟩, ?_⟩
        rw [List.flatten_cons]
        refine List.nodup_append.mpr ⟨hh.nd, i2, fun x hx y hy q => ?_⟩
        subst q
        rcases footOf_mem hy with z | ⟨i, k, z1, z2, z3⟩
        · exact offl x hx z
        · exact (hh.off x hx).1 (flatten_mem z2 z3)
      cases s with
      | no => cases e1
      | sh d =>
        cases e1
        exact plain (fun i z => nomatch z) (by simpa [brs] using nb) ⟨hh.r.1, v, rfl, hh.r.2⟩
      | ow d =>
        cases e1
        exact plain (fun i z => nomatch z) (by simpa [brs] using nb) ⟨v, rfl, hh.r⟩
      | br i =>
        have nb2 : (!(brs ss).contains i) = true ∧ nodupB (brs ss) = true := by
          have : nodupB (i :: brs ss) = true := nb
          unfold nodupB at this
          exact Bool.and_eq_true_iff.mp this
        obtain ⟨i1, i2⟩ := argsOf_ok I ht e2 nb2.2
        obtain ⟨_, hv⟩ := hh.r
        dsimp only [argOf] at e1
        cases q : ρ[i]? with
        | none => rw [q] at e1; cases e1
        | some s' =>
          rw [q] at e1
          obtain ⟨x, k, h1, h2, h3⟩ := I.all.get q
          rw [hv] at h1
          cases h1
          have ea : a = s' := by
            cases s' with
            | no => cases e1
            | sh d => cases e1; rfl
            | ow d => cases e1; rfl
            | br j => cases e1
          subst ea
          rw [footOf, h2]
          refine ⟨⟨h3, i1⟩, ?_⟩
          show (k :: footOf F ss ls).flatten.Nodup
          rw [List.flatten_cons]
          refine List.nodup_append.mpr ⟨nodup_at I.nd h2, i2, fun x hx y hy q' => ?_⟩
          subst q'
          rcases footOf_mem hy with z | ⟨j, k', z1, z2, z3⟩
          · exact (ht.off x z).1 (flatten_mem h2 hx)
          · have ej := slots_apart I.nd h2 z2 hx z3
            subst ej
            have nc := nb2.1
            rw [Bool.not_eq_true'] at nc
            have : (brs ss).contains i = true := by simpa using z1
            rw [nc] at this
            cases this
    · cases e
  | [], [], _ :: _, _, h, _, _ => h.r.elim
  | [], _ :: _, _, _, h, _, _ => h.r.elim
  | _ :: _, [], _, _, h, _, _ => h.r.elim
  | _ :: _, _ :: _, [], _, h, _, _ => h.r.elim
theorem back_ok : ∀ {ss : List Sl} {outs : List Sl} {F' : List (List Addr)} {vs : List V} {ls : List (List Addr)} {Fc : List (List Addr)} {ρc : Env}, All3 Γ S' H' outs (vs.map some) F' → HdRs Γ σ S H ss vs ls → FI Γ Fc ρc σ S' H' → F'.flatten.Nodup →
    (∀ a ∈ F'.flatten, a ∉ Fc.flatten ∧ S' a = none) → ∃ F2, FI Γ F2 (back ρc ss outs) σ S' H' ∧ ∀ a ∈ F2.flatten, a ∈ Fc.flatten ∨ a ∈ F'.flatten
  | [], outs, F', vs, ls, Fc, ρc, _, _, I, _, _ => ⟨Fc, by cases outs <;> exact I, fun a ha => .inl ha⟩
  | s :: ss, [], F', vs, ls, Fc, ρc, _, _, I, _, _ => ⟨Fc, by cases s <;> exact I, fun a ha => .inl ha⟩
  | s :: ss, o :: outs, [], [], _, _, _, h, _, _, _, _ => h.elim
  | s :: ss, o :: outs, [], _ :: _, _, _, _, h, _, _, _, _ => h.elim
  | s :: ss, o :: outs, _ :: _, [], _, _, _, h, _, _, _, _ => h.elim
  | s :: ss, o :: outs, f :: F', v :: vs, [], Fc, ρc, _, h, _, _, _ => h.elim
  | s :: ss, o :: outs, f :: F', v :: vs, l :: ls, Fc, ρc, ⟨a1, a2⟩, ⟨r1, r2⟩, I, nd, off => by
    rw [List.flatten_cons] at nd
    obtain ⟨n1, n2, n3⟩ := List.nodup_append.mp nd
    have off1 : ∀ a ∈ f, a ∉ Fc.flatten ∧ S' a = none := fun a ha => off a (by rw [List.flatten_cons]; exact List.mem_append_left _ ha)
    have off2 : ∀ a ∈ F'.flatten, a ∉ Fc.flatten ∧ S' a = none := fun a ha => off a (by rw [List.flatten_cons]; exact List.mem_append_right _ ha)
    have skip : (∀ i, s ≠ .br i) → ∃ F2, FI Γ F2 (back ρc (s :: ss) (o :: outs)) σ S' H' ∧ ∀ a ∈ F2.flatten, a ∈ Fc.flatten ∨ a ∈ (f :: F').flatten := fun hb => by
      obtain ⟨F2, I2, m2⟩ := back_ok a2 r2 I n2 off2
      refine ⟨F2, ?_, fun a ha => (m2 a ha).imp id fun z => by rw [List.flatten_cons]; exact List.mem_append_right _ z⟩
      cases s with
      | br i => exact absurd rfl (hb i)
      | no => exact I2
      | sh d => exact I2
      | ow d => exact I2
    cases s with
    | no => exact skip fun i z => nomatch z
    | sh d => exact skip fun i z => nomatch z
    | ow d => exact skip fun i z => nomatch z
    | br i =>
      obtain ⟨_, hv⟩ := r1
      have A3 := I.all.set i a1
      rw [set_get_self hv] at A3
      have I1 : FI Γ (Fc.set i f) (ρc.set i o) σ S' H' := ⟨I.sub, A3, nodup_set n1 I.nd fun a ha => (off1 a ha).1, fun a ha => by
        rcases mem_set (F := Fc) (i := i) ha with z | z
        · exact (off1 a z).2
        · exact I.off a z⟩
      obtain ⟨F2, I2, m2⟩ := back_ok a2 r2 I1 n2 fun a ha => ⟨fun z => by
        rcases mem_set (F := Fc) (i := i) z with q | q
        · exact n3 a q a ha rfl
        · exact (off2 a ha).1 q, (off2 a ha).2⟩
      refine ⟨F2, I2, fun a ha => ?_⟩
      rw [List.flatten_cons]
      rcases m2 a ha with z | z
      · rcases mem_set (F := Fc) (i := i) z with q | q
        · exact .inr (List.mem_append_left _ q)
        · exact .inl q
      · exact .inr (List.mem_append_right _ z)
/-- behind the callee, in the caller's frame -/
theorem call_back {Fb : List (List Addr)} {Sb Hb : Hp} {ss : List Sl} {vs : List V} {ls : List (List Addr)} {outs : List Sl} (I : FI Γ F ρ σ S H) (T : Tr Fb Sb Hb F S H) (hd : HdsOk Γ F σ S H ss vs ls) (hl : ∀ a ∈ ls.flatten, a ∈ Fb.flatten ∨ Hb a = none)
    (J : FI Γ F' outs (vs.map some) S' H') (T' : Tr (footOf F ss ls) S H F' S' H') :
    ∃ F2, FI Γ F2 (back (wipeE ρ (brs ss)) ss outs) σ S' H' ∧ Tr Fb Sb Hb F2 S' H' ∧ ∀ a, a ∈ F2.flatten → a ∈ F'.flatten ∨ (a ∉ (footOf F ss ls).flatten ∧ H a ≠ none) := by
  have I0 := I.wipeSame (brs ss)
  have n0 : ∀ a ∈ (wipeF F (brs ss)).flatten, a ∉ (footOf F ss ls).flatten := fun a ha z => by
    obtain ⟨k, hk, hak⟩ := List.mem_flatten.mp ha
    obtain ⟨i, hi⟩ := List.mem_iff_getElem?.mp hk
    rcases wipeF_get hi with q | ⟨q1, q2⟩
    · subst q; cases hak
    · rcases footOf_mem z with z | ⟨j, l, z1, z2, z3⟩
      · exact (hd.off a z).1 (flatten_mem q2 hak)
      · have := slots_apart I.nd q2 z2 hak z3
        subst this
        exact q1 z1
  have I1 : FI Γ (wipeF F (brs ss)) (wipeE ρ (brs ss)) σ S' H' := ⟨J.sub, I0.all.go T'.st fun a ha o e => T'.keep a o e (n0 a ha), I0.nd, fun a ha => by
    cases q : S' a with
    | none => rfl
    | some o =>
      rcases T'.dom a (by rw [q]; simp) with z | z | z
      · exact absurd (I0.off a ha) z
      · exact absurd z (I0.there a ha)
      · exact absurd z (n0 a ha)⟩
  obtain ⟨F2, I2, m2⟩ := back_ok (F' := F') J.all hd.r I1 J.nd fun a ha => ⟨fun z => by
    rcases T'.fsub a ha with q | q
    · exact n0 a z q
    · exact I0.there a z q, J.off a ha⟩
  have up : ∀ a, a ∈ (footOf F ss ls).flatten → a ∈ Fb.flatten ∨ Hb a = none := fun a ha => by
    rcases footOf_mem ha with z | ⟨i, l, _, z2, z3⟩
    · exact hl a z
    · exact T.fsub a (flatten_mem z2 z3)
  refine ⟨F2, I2, ⟨T.st.trans T'.st, fun a o e hn => ?_, fun a h => ?_, fun a ha => ?_⟩, fun a ha => ?_⟩
  · refine T'.keep a o (T.keep a o e hn) fun z => ?_
    rcases up a z with q | q
    · exact hn q
    · rw [e] at q; cases q
  · rcases T'.dom a h with z | z | z
    · exact T.dom a z
    · exact .inr ((T.back z).symm)
    · exact .inr ((up a z).symm)
  · rcases m2 a ha with z | z
    · exact T.fsub a (wipeF_sub z)
    · rcases T'.fsub a z with q | q
      · exact up a q
      · exact T.back q
  · rcases m2 a ha with z | z
    · exact .inr ⟨n0 a z, I0.there a z⟩
    · exact .inl z
/-- f(..): what is raised is wished for at the slots as they stand -/
theorem Sem.call {n : Nat} {f : Fn} {E : L2.St → XK} {t : TA} {ms : Ev (List Sl)} (hE : ∀ σ cls d H, W cls d σ H → E σ cls d H) (hn : ∀ ρ ss ρ', ms ρ = .ok ss ρ' → ss.length = n) (h : SemA Γ W t ms) : Sem Γ W (tCallS (spOf Γ n f) E t) (eCall f ms) := by
  intro F ρ σ S H Q I o
  refine h F ρ σ S H _ I ?_
  unfold eCall Ev.bind at o
  cases e0 : ms ρ with
  | bad => rw [e0] at o; exact o
  | exc c fs ρ' => rw [e0] at o; exact o
  | ok ss ρ1 =>
    simp only [e0] at o
    intro F1 S1 H1 I1 T1 vs ls hl hd
    have hlen : ∀ {ss : List Sl} {vs : List V} {ls : List (List Addr)}, HdRs Γ σ S1 H1 ss vs ls → vs.length = ss.length := by
      intro ss
      induction ss with
      | nil => intro vs ls h; cases vs <;> cases ls <;> first | rfl | exact h.elim
      | cons s ss ih =>
        intro vs ls h
        cases vs with
        | nil => cases ls <;> exact h.elim
        | cons v vs =>
          cases ls with
          | nil => exact h.elim
          | cons l ls => simp [ih h.2]
    unfold callAt at o
    cases ea : argsOf ρ1 ss with
    | none => simp only [ea] at o; exact o.elim
    | some as =>
      simp only [ea] at o
      split at o
      · rename_i nb
        obtain ⟨A3, nd⟩ := argsOf_ok I1 hd ea nb
        refine ⟨(hlen hd.r).trans (hn _ _ _ e0), footOf F1 ss ls, S1, as, ⟨I1.sub, A3, nd, fun a ha => ?_⟩, ?_⟩
        · rcases footOf_mem ha with z | ⟨i, l, _, z2, z3⟩
          · exact (hd.off a z).2
          · exact I1.off a (flatten_mem z2 z3)
        · have upF : ∀ a, a ∈ (footOf F1 ss ls).flatten ∨ H1 a = none → a ∈ F.flatten ∨ H a = none := fun a z => by
            rcases z with z | z
            · rcases footOf_mem z with z | ⟨i, l, _, z2, z3⟩
              · exact hl a z
              · exact T1.fsub a (flatten_mem z2 z3)
            · exact T1.back z
          have okk : ∀ r outs, (∀ j, r ≠ .br j) → Out Γ W (pE Γ σ Q) F S H σ (.ok r (back (wipeE ρ1 (brs ss)) ss outs)) → OutF Γ (footOf F1 ss ls) S1 H1 vs Q (E σ) (.ok r outs) := fun r outs _ o => by
            intro v l F' S' H' J T' hl' nb' hr
            obtain ⟨F2, I2, T2, m2⟩ := call_back I1 T1 hd hl J T'
            refine o F2 S' H' I2 T2 v l (fun a ha => upF a (hl' a ha)) ⟨?_, hr.nd, fun a ha => ⟨fun z => ?_, (hr.off a ha).2⟩⟩
            · have q := hr.r
              cases r with
              | no => exact q
              | sh d => exact q
              | ow d => exact q
              | br j => exact absurd rfl (nb' j)
            · rcases m2 a z with q | ⟨q1, q2⟩
              · exact (hr.off a ha).1 q
              · rcases hl' a ha with w | w
                · exact q1 w
                · exact q2 w
          cases ef : f as with
          | bad => simp only [ef] at o; exact o.elim
          | exc c fs outs =>
            simp only [ef] at o
            intro cls dd F' S' H' J T' hl' x
            obtain ⟨F2, I2, T2, m2⟩ := call_back I1 T1 hd hl J T'
            refine hE _ _ _ _ (o cls dd F2 S' H' I2 T2 (fun d e => upF d (hl' d e)) ?_)
            obtain ⟨x1, d, ws, x2, x3, x4, x5, x6⟩ := x
            refine ⟨x1, d, ws, x2, x3, x4, fun z => ?_, x6⟩
            rcases m2 d z with q | ⟨q1, q2⟩
            · exact x5 q
            · rcases hl' d x2 with w | w
              · exact q1 w
              · exact q2 w
          | ok r outs =>
            cases r with
            | no => simp only [ef] at o; exact o.elim
            | br j => simp only [ef] at o; exact o.elim
            | sh d => simp only [ef] at o; exact okk (.sh d) outs (fun j z => nomatch z) o
            | ow d => simp only [ef] at o; exact okk (.ow d) outs (fun j z => nomatch z) o
      · exact o.elim
end
end PM

set_option Elab.async false
set_option linter.all false
set_option maxRecDepth 100000
set_option maxHeartbeats 4000000
/-! PM, part f: defs. -/
namespace PM
open PySem PySem.Spec PyProof.Rows L2

def ArgN (n : Nat) (ms : Ev (List Sl)) : Prop := ∀ ρ ss ρ', ms ρ = .ok ss ρ' → ss.length = n
theorem ArgN.nil : ArgN 0 eNil := fun ρ ss ρ' h => by cases h; rfl
theorem ArgN.cons {n : Nat} {m : Ev Sl} {ms : Ev (List Sl)} (h : ArgN n ms) : ArgN (n + 1) (eCons m ms) := by
  intro ρ ss ρ' e
  unfold eCons Ev.bind at e
  cases e1 : m ρ with
  | bad => simp only [e1] at e; cases e
  | exc c fs ρ1 => simp only [e1] at e; cases e
  | ok s ρ1 =>
    simp only [e1] at e
    cases e2 : ms ρ1 with
    | bad => simp only [e2] at e; cases e
    | exc c fs ρ2 => simp only [e2] at e; cases e
    | ok r ρ2 =>
      simp only [e2] at e
      cases e
      simp [h _ _ _ e2]

/-! ### a def's meaning by its body's -/
/-- parameters that the body stores are frozen at the entry -/
def frA (A : Nat → Bool) : Nat → List Sl → List Sl
  | _, [] => []
  | j, .ow d :: r => (if A j = true then .sh d else .ow d) :: frA A (j + 1) r
  | j, s :: r => s :: frA A (j + 1) r
def outsOf (A : Nat → Bool) : Nat → List Sl → Env → List Sl
  | j, a :: as, r :: ρ => (if A j = true then a else r) :: outsOf A (j + 1) as ρ
  | _, _, _ => []
def mkFn (N np : Nat) (A : Nat → Bool) (body : Sv) : Fn := fun as => if as.length = np then
    match body (frA A 0 as ++ List.replicate (N - np) .no) with
    | .nx ρ' => .ok (.sh .non) (outsOf A 0 (frA A 0 as) ρ')
    | .rt (.sh d) ρ' => .ok (.sh d) (outsOf A 0 (frA A 0 as) ρ')
    | .rt (.ow d) ρ' => .ok (.ow d) (outsOf A 0 (frA A 0 as) ρ')
    | .rt (.br i) ρ' => if i < np then (match frz ρ' (.br i) with
        | some (d, ρ2) => .ok (.sh d) (outsOf A 0 (frA A 0 as) ρ2)
        | none => .bad)
      else (match ρ'[i]? with
        | some (.ow d) => .ok (.ow d) (outsOf A 0 (frA A 0 as) (ρ'.set i .no))
        | some (.sh d) => .ok (.sh d) (outsOf A 0 (frA A 0 as) ρ')
        | _ => .bad)
    | .exc c fs ρ' => .exc c fs (outsOf A 0 (frA A 0 as) ρ')
    | _ => .bad
  else .bad

section
variable {Γ : Cfg} {W : WX} {A : Nat → Bool} {F F' F0 : List (List Addr)} {S S' S0 H H' H0 : Hp} {ρ ρ' : Env} {σ σ' : L2.St} {Q : VK}
theorem All3.append : ∀ {ρ : Env} {σ : L2.St} {F : List (List Addr)} {ρ2 : Env} {σ2 : L2.St} {F2 : List (List Addr)}, All3 Γ S H ρ σ F → All3 Γ S H ρ2 σ2 F2 → All3 Γ S H (ρ ++ ρ2) (σ ++ σ2) (F ++ F2)
  | [], [], [], _, _, _, _, q => q
  | _ :: _, _ :: _, _ :: _, _, _, _, ⟨h1, h⟩, q => ⟨h1, All3.append h q⟩
  | [], [], _ :: _, _, _, _, h, _ => h.elim
  | [], _ :: _, _, _, _, _, h, _ => h.elim
  | _ :: _, [], _, _, _, _, h, _ => h.elim
  | _ :: _, _ :: _, [], _, _, _, h, _ => h.elim
theorem All3.noes : ∀ n : Nat, All3 Γ S H (List.replicate n .no) (List.replicate n none) (List.replicate n [])
  | 0 => True.intro
  | n + 1 => ⟨rfl, All3.noes n⟩
theorem FI.noes (I : FI Γ F ρ σ S H) (n : Nat) : FI Γ (F ++ List.replicate n []) (ρ ++ List.replicate n .no) (σ ++ List.replicate n none) S H := by
  have e : (F ++ List.replicate n []).flatten = F.flatten := by simp
  exact ⟨I.sub, I.all.append (.noes n), by rw [e]; exact I.nd, by rw [e]; exact I.off⟩
/-- the entry: j: how many parameters stand ahead -/
theorem FI.enter (A : Nat → Bool) {as : List Sl} {vs : List V} (I : FI Γ F as (vs.map some) S H) : ∃ F1 S1, FI Γ F1 (frA A 0 as) (vs.map some) S1 H ∧ Tr F S H F1 S1 H := by
  have key : ∀ (as : List Sl) (j : Nat) (σ : L2.St) (pre : Env) (F : List (List Addr)) (S : Hp), FI Γ F (pre ++ as) σ S H → pre.length = j → ∃ F1 S1, FI Γ F1 (pre ++ frA A j as) σ S1 H ∧ Tr F S H F1 S1 H := by
    intro as
    induction as with
    | nil => intro j σ pre F S I _; exact ⟨F, S, I, .refl⟩
    | cons s as ih =>
      intro j σ pre F S I hj
      have next : ∀ (s' : Sl) (F : List (List Addr)) (S : Hp), FI Γ F (pre ++ s' :: as) σ S H → ∃ F1 S1, FI Γ F1 (pre ++ s' :: frA A (j + 1) as) σ S1 H ∧ Tr F S H F1 S1 H := fun s' F S I => by
        have e : pre ++ s' :: as = (pre ++ [s']) ++ as := by simp
        rw [e] at I
        obtain ⟨F1, S1, I1, T1⟩ := ih (j + 1) σ (pre ++ [s']) F S I (by simp [hj])
        exact ⟨F1, S1, by simpa using I1, T1⟩
      cases s with
      | ow d =>
        by_cases h : A j = true
        · have hi : (pre ++ Sl.ow d :: as)[j]? = some (.ow d) := by rw [← hj]; simp
          obtain ⟨x, l, h1, h2, h3⟩ := I.all.get hi
          have I2 := I.frz h2 h1 h3
          have es : (pre ++ Sl.ow d :: as).set j (.sh d) = pre ++ .sh d :: as := by rw [← hj]; simp
          rw [es] at I2
          obtain ⟨F1, S1, I3, T3⟩ := next (.sh d) _ _ I2
          have o2 : ∀ a ∈ l, S a = none := fun a ha => I.off a (flatten_mem h2 ha)
          have T := (Tr.refl (F := F) (S := S) (H := H)).add l o2 fun a ha => .inl (flatten_mem h2 ha)
          have T2 : Tr F S H (F.set j []) (PM.add S H l) H := ⟨T.st, T.keep, T.dom, fun a ha => T.fsub a (mem_set_nil ha)⟩
          refine ⟨F1, S1, ?_, T2.trans T3⟩
          show FI Γ F1 (pre ++ (if A j = true then Sl.sh d else .ow d) :: frA A (j + 1) as) σ S1 H
          rw [if_pos h]
          exact I3
        · show ∃ F1 S1, FI Γ F1 (pre ++ (if A j = true then Sl.sh d else .ow d) :: frA A (j + 1) as) σ S1 H ∧ _
          rw [if_neg h]
          exact next _ _ _ I
      | no => exact next _ _ _ I
      | sh d => exact next _ _ _ I
      | br i => exact next _ _ _ I
  exact key as 0 _ [] F S I rfl
theorem frA_len (A : Nat → Bool) : ∀ (j : Nat) (as : List Sl), (frA A j as).length = as.length
  | _, [] => rfl
  | j, .ow d :: r => by simp [frA, frA_len A (j + 1) r]
  | j, .no :: r => by simp [frA, frA_len A (j + 1) r]
  | j, .sh d :: r => by simp [frA, frA_len A (j + 1) r]
  | j, .br i :: r => by simp [frA, frA_len A (j + 1) r]
/-- the end: the parameters as they stand -/
theorem outs_ok : ∀ {as0 as : List Sl} {j : Nat} {vs : List V} {ρ : Env} {σ : L2.St} {F Fa : List (List Addr)}, All3 Γ S0 H0 (frA A j as0) (vs.map some) Fa → All3 Γ S H ρ σ F → Ex S0 S → F.flatten.Nodup → as0.length ≤ ρ.length →
    (∀ i v, vs[i]? = some v → A (j + i) = false → σ[i]? = some (some v)) →
    ∃ F1, All3 Γ S H (outsOf A j (frA A j as0) ρ) (vs.map some) F1 ∧ F1.flatten.Nodup ∧ (∀ a ∈ F1.flatten, a ∈ F.flatten) ∧ ∀ i l a, as0.length ≤ i → F[i]? = some l → a ∈ l → a ∉ F1.flatten
  | [], _, j, vs, ρ, σ, F, Fa, h, h2, e, nd, _, hs => by
    have hv : vs = [] := by
      cases vs with
      | nil => rfl
      | cons v vs => exact h.elim
    subst hv
    exact ⟨[], by cases ρ <;> exact True.intro, List.nodup_nil, by simp, by simp⟩
  | a0 :: as0, as, j, [], ρ, σ, F, Fa, h, _, _, _, _, _ => by
    exfalso
    have := h.len
    rw [frA_len] at this
    simp at this
  | a0 :: as0, as, j, v :: vs, ρ, σ, F, Fa, h, h2, e, nd, hl, hs => by
    cases ρ with
    | nil => simp at hl
    | cons r ρ =>
      cases σ with
      | nil => exact h2.elim
      | cons x σ =>
        cases F with
        | nil => exact h2.elim
        | cons f F =>
          cases Fa with
          | nil => exfalso; have := h.len; rw [frA_len] at this; simp at this
          | cons fa Fa =>
            obtain ⟨h21, h22⟩ := h2
            rw [List.flatten_cons] at nd
            obtain ⟨n1, n2, n3⟩ := List.nodup_append.mp nd
            obtain ⟨b0, eb, hb1, hb2, hb3⟩ : ∃ b0, frA A j (a0 :: as0) = b0 :: frA A (j + 1) as0 ∧ SlR Γ S0 H0 b0 (some v) fa ∧ All3 Γ S0 H0 (frA A (j + 1) as0) (vs.map some) Fa ∧ (A j = true → ∀ d, b0 ≠ .ow d) := by
              cases a0 with
              | ow d => exact ⟨_, rfl, h.1, h.2, fun hA d' z => by rw [if_pos hA] at z; cases z⟩
              | no => exact ⟨_, rfl, h.1, h.2, fun _ d' z => nomatch z⟩
              | sh d => exact ⟨_, rfl, h.1, h.2, fun _ d' z => nomatch z⟩
              | br i => exact ⟨_, rfl, h.1, h.2, fun _ d' z => nomatch z⟩
            obtain ⟨F1, i1, i2, i3, i4⟩ := outs_ok (as := as) (j := j + 1) hb2 h22 e n2 (by simpa using hl) fun i v' hv hA => by
              have q := hs (i + 1) v' (by simpa using hv) (by rw [show j + (i + 1) = j + 1 + i by omega]; exact hA)
              simpa using q
            rw [eb]
            show ∃ F1, All3 Γ S H ((if A j = true then b0 else r) :: outsOf A (j + 1) (frA A (j + 1) as0) ρ) ((v :: vs).map some) F1 ∧ _
            by_cases hA : A j = true
            · rw [if_pos hA]
              refine ⟨[] :: F1, ⟨?_, i1⟩, i2, fun a ha => ?_, fun i l a hi hl' ha => ?_⟩
              · cases b0 with
                | no => exact rfl
                | sh d => obtain ⟨_, w, hw, rr⟩ := hb1; exact ⟨rfl, w, hw, Rep.ex e _ _ rr⟩
                | ow d => exact absurd rfl (hb3 hA d)
                | br i => exact hb1.elim
              · rw [List.flatten_cons]; exact List.mem_append_right _ (i3 a (by simpa using ha))
              · cases i with
                | zero => simp at hi
                | succ i => simpa using i4 i l a (by simpa using hi) (by simpa using hl') ha
            · rw [if_neg hA]
              have q := hs 0 v rfl (by simpa using hA)
              have ex : x = some v := by simpa using q
              subst ex
              refine ⟨f :: F1, ⟨h21, i1⟩, ?_, fun a ha => ?_, fun i l a hi hl' ha z => ?_⟩
              · rw [List.flatten_cons]
                exact List.nodup_append.mpr ⟨n1, i2, fun a ha b hb q => n3 a ha b (i3 b hb) q⟩
              · rw [List.flatten_cons] at ha ⊢
                exact (List.mem_append.mp ha).elim (List.mem_append_left _) fun z => List.mem_append_right _ (i3 a z)
              · cases i with
                | zero => simp at hi
                | succ i =>
                  rw [List.flatten_cons] at z
                  rcases List.mem_append.mp z with z | z
                  · exact n3 a z a (flatten_mem (by simpa using hl') ha) rfl
                  · exact i4 i l a (by simpa using hi) (by simpa using hl') ha z
/-- the body's meaning gives the def's -/
theorem mkFn_ok {N np : Nat} {body : Sv} {t : TS} {vs : List V} {ss : List Sl} {E : XK} (hb : SemS Γ (fun cls d _ H => E cls d H) A t body) (hN : np ≤ N) (hv : vs.length = np) (I : FI Γ F ss (vs.map some) S H)
    (o : OutF Γ F S H vs Q E (mkFn N np A body ss)) : t { nx := fun _ H' => Q .non H', rt := Q } (vs.map some ++ List.replicate (N - vs.length) none) H := by
  unfold mkFn at o
  have hss : ss.length = np := by rw [I.all.len.1, List.length_map, hv]
  rw [if_pos hss] at o
  obtain ⟨F1, S1, I1, T1⟩ := I.enter A
  have I2 := I1.noes (N - np)
  have T2 : Tr F S H (F1 ++ List.replicate (N - np) []) S1 H := T1.sub fun a ha => T1.fsub a (by simpa using ha)
  have hlen : (frA A 0 ss ++ List.replicate (N - np) Sl.no).length = N := by rw [List.length_append, frA_len, hss, List.length_replicate]; omega
  -- the frame at the end
  have endF : ∀ {ρ2 : Env} {σ2 : L2.St} {F2 : List (List Addr)} {S2 H2 : Hp}, FI Γ F2 ρ2 σ2 S2 H2 → Tr (F1 ++ List.replicate (N - np) []) S1 H F2 S2 H2 → Agree A (vs.map some ++ List.replicate (N - vs.length) none) σ2 →
      ∃ Fo, FI Γ Fo (outsOf A 0 (frA A 0 ss) ρ2) (vs.map some) S2 H2 ∧ Tr F S H Fo S2 H2 ∧ (∀ a ∈ Fo.flatten, a ∈ F2.flatten) ∧ ∀ i l a, np ≤ i → F2[i]? = some l → a ∈ l → a ∉ Fo.flatten := fun {ρ2 σ2 F2 S2 H2} I3 T3 G => by
    obtain ⟨Fo, o1, o2, o3, o4⟩ := outs_ok (as := ss) (j := 0) I1.all I3.all T3.st I3.nd (by rw [I3.all.len.1, G.1, List.length_append, List.length_map, List.length_replicate]; omega) fun i v hi hA => by
      rw [G.2 i (by simpa using hA), List.getElem?_append_left (by rw [List.length_map]; exact (List.getElem?_eq_some_iff.mp hi).1), List.getElem?_map, hi]
      rfl
    have T4 := T2.trans T3
    exact ⟨Fo, ⟨I3.sub, o1, o2, fun a ha => I3.off a (o3 a ha)⟩, T4.sub fun a ha => T4.fsub a (o3 a ha), o3, fun i l a hi => o4 i l a (by omega)⟩
  have start : ∀ σ, σ = vs.map some ++ List.replicate (N - vs.length) none → FI Γ (F1 ++ List.replicate (N - np) []) (frA A 0 ss ++ List.replicate (N - np) .no) σ S1 H := fun σ e => by
    rw [e, hv]; exact I2
  refine hb _ _ _ _ _ _ (start _ rfl) ?_
  have up : ∀ a, a ∈ (F1 ++ List.replicate (N - np) []).flatten ∨ H a = none → a ∈ F.flatten ∨ H a = none := T2.up
  have plain : ∀ (r : Sl) ρ2, (∀ j, r ≠ .br j) → OutF Γ F S H vs Q E (.ok r (outsOf A 0 (frA A 0 ss) ρ2)) →
      OutS Γ (fun cls d _ H => E cls d H) A (F1 ++ List.replicate (N - np) []) S1 H (vs.map some ++ List.replicate (N - vs.length) none) { nx := fun _ H' => Q .non H', rt := Q } (.rt r ρ2) := fun r ρ2 hr o => by
    intro v l σ2 F2 S2 H2 I3 T3 G hl hd
    obtain ⟨Fo, J, TJ, m1, _⟩ := endF I3 T3 G
    refine o v l Fo S2 H2 J TJ (fun a ha => up a (hl a ha)) hr ⟨?_, hd.nd, fun a ha => ⟨fun z => (hd.off a ha).1 (m1 a z), (hd.off a ha).2⟩⟩
    have q := hd.r
    cases r with
    | no => exact q
    | sh d => exact q
    | ow d => exact q
    | br j => exact absurd rfl (hr j)
  cases e : body (frA A 0 ss ++ List.replicate (N - np) .no) with
  | bad => simp only [e] at o; exact o.elim
  | bk ρ2 => simp only [e] at o; exact o.elim
  | ct ρ2 => simp only [e] at o; exact o.elim
  | nx ρ2 =>
    simp only [e] at o
    intro σ2 F2 S2 H2 I3 T3 G
    obtain ⟨Fo, J, TJ, m1, _⟩ := endF I3 T3 G
    exact o .non [] Fo S2 H2 J TJ (by simp) (fun j z => nomatch z) (.sh rfl)
  | exc c fs ρ2 =>
    simp only [e] at o
    intro cls dd σ2 F2 S2 H2 I3 T3 G hl x
    obtain ⟨Fo, J, TJ, m1, _⟩ := endF I3 T3 G
    obtain ⟨x1, d, ws, x2, x3, x4, x5, x6⟩ := x
    exact o cls dd Fo S2 H2 J TJ (fun d e => up d (hl d e)) ⟨x1, d, ws, x2, x3, x4, fun z => x5 (m1 d z), x6⟩
  | rt r ρ2 =>
    cases r with
    | no => simp only [e] at o; exact o.elim
    | sh d => simp only [e] at o; exact plain (.sh d) ρ2 (fun j z => nomatch z) o
    | ow d => simp only [e] at o; exact plain (.ow d) ρ2 (fun j z => nomatch z) o
    | br i =>
      simp only [e] at o
      intro v l σ2 F2 S2 H2 I3 T3 G hl hd
      by_cases hi : i < np
      · rw [if_pos hi] at o
        cases ef : frz ρ2 (.br i) with
        | none => simp only [ef] at o; exact o.elim
        | some q =>
          obtain ⟨d, ρ3⟩ := q
          simp only [ef] at o
          obtain ⟨F3, S3, I4, T4, r⟩ := frz_ok T3 hl I3 hd ef
          obtain ⟨Fo, J, TJ, m1, _⟩ := endF I4 T4 G
          exact o v [] Fo S3 H2 J TJ (by simp) (fun j z => nomatch z) (.sh r)
      · rw [if_neg hi] at o
        obtain ⟨_, hv2⟩ := hd.r
        cases eq : ρ2[i]? with
        | none => simp only [eq] at o; exact o.elim
        | some s =>
          obtain ⟨x, k, h1, h2, h3⟩ := I3.all.get eq
          rw [hv2] at h1
          cases h1
          cases s with
          | no => simp only [eq] at o; exact o.elim
          | br j => simp only [eq] at o; exact o.elim
          | sh d =>
            simp only [eq] at o
            obtain ⟨_, w, hw, rr⟩ := h3
            cases hw
            obtain ⟨Fo, J, TJ, m1, _⟩ := endF I3 T3 G
            exact o v [] Fo S2 H2 J TJ (by simp) (fun j z => nomatch z) (.sh rr)
          | ow d =>
            simp only [eq] at o
            obtain ⟨w, hw, rr⟩ := h3
            cases hw
            have I4 := I3.setNoSame i
            obtain ⟨Fo, J, TJ, m1, m2⟩ := endF I4 (T3.sub fun a ha => T3.fsub a (mem_set_nil ha)) G
            refine o v k Fo S2 H2 J TJ (fun a ha => up a (T3.fsub a (flatten_mem h2 ha))) (fun j z => nomatch z) ⟨rr, nodup_at I3.nd h2, fun a ha => ⟨fun z => ?_, I3.off a (flatten_mem h2 ha)⟩⟩
            exact set_nil_not I3.nd h2 ha (m1 a z)
theorem start_eq (N : List Str) (vs : List V) : L2.start N vs = vs.map some ++ List.replicate (N.length - vs.length) none := rfl
/-- THE RULE for a def -/
theorem fn_ok {P : Program} {w : World} {K : PySem.W.Frag} {mg : Str → Option Value} {base : Heap} {x qual : Str} {st : Stmt} {f : Addr} {fd : FuncData} {N ps : List Str} {k : Nat} {A : Nat → Bool} {body : Sv} (FF : Fun K x qual st f fd) (Sc : FnScope N ps (defScope st)) (hle : ps.length ≤ N.length)
    (hbody : ∀ (cdv : Value) (Ar : Around) (outer : List PySem.Env) (s : Shared) (H : Hp) (E : XK), Room k (Ar.deeper (envOfC qual (defScope st) s.heap.objs.size f cdv)) →
      ∃ t, PSs (cxOf (L2.CX P w) P w K mg base N qual (defScope st) f cdv Ar outer s H E) (defBody st) t ∧ SemS Γ (fun cls d _ H => E cls d H) A t body) :
    FnOk P w K mg base (L2.CX P w) (k + 1) f fd ps (spOf Γ ps.length (mkFn N.length ps.length A body)) := by
  refine FF.okX Sc (fun vs H Q E h => h.1) fun cdv Ar outer s H vs Q E hr h => ?_
  obtain ⟨t, ht, hs⟩ := hbody cdv Ar outer s H E hr
  obtain ⟨hl, F, S, ss, I, o⟩ := h
  exact ⟨t, ht, by rw [start_eq]; exact mkFn_ok hs hle hl I o⟩
end
end PM

set_option Elab.async false
set_option linter.all false
set_option maxRecDepth 100000
set_option maxHeartbeats 4000000
/-! PM, part g: operations, built-ins, what is walked. -/
namespace PM
open PySem PySem.Spec PyProof.Rows L2

section
variable {Γ : Cfg} {S H : Hp} {x y v : V} {d e : D} {Q : VK}
theorem Lk.int {i : Int} (h : Lk Γ S H (.int i) x) : x = .int i := h
theorem Lk.bl {b : Bool} (h : Lk Γ S H (.bl b) x) : x = .bl b := h
theorem Lk.str {s : List Nat} (h : Lk Γ S H (.str s) x) : x = .str (tx s) := h
theorem Lk.non (h : Lk Γ S H .non x) : x = .non := h
theorem Lk.tup {ds : List D} (h : Lk Γ S H (.tup ds) x) : ∃ a vs, x = .ref a ∧ S a = some (.tup vs) ∧ Reps Γ S ds vs := h
theorem Lk.lst {ds : List D} (h : Lk Γ S H (.lst ds) x) : ∃ a vs, x = .ref a ∧ H a = some (.lst vs) ∧ Reps Γ S ds vs := h
theorem OpR.or3 {X : Cx} {f : Value → Value → PySem.Sem Value} {r1 r2 : R2} (h1 : OpR X f r1) (h2 : OpR X f r2) : OpR X f (fun x y H Q => r1 x y H Q ∨ r2 x y H Q) := h1.or h2

/-! ### + - * // % ** -/
def addD : D → D → Option Sl
  | .int i, .int j => some (.sh (.int (i + j)))
  | .str a, .str b => if okL (a.length + b.length) = true then some (.sh (.str (a ++ b))) else none
  | .tup a, .tup b => if okL (a.length + b.length) = true then some (.sh (.tup (a ++ b))) else none
  | .lst a, .lst b => if okL (a.length + b.length) = true then some (.ow (.lst (a ++ b))) else none
  | _, _ => none
def rAddX (K : PySem.W.Frag) : R2 := fun x y H Q => rI0 (fun i j => .int (i + j)) x y H Q ∨ ((∃ i j, x = .str i ∧ y = .str j ∧ i.length + j.length ≤ sizeLine ∧ Q (.str (i ++ j)) H) ∨ (rCatA K x y H Q ∨ rCat x y H Q))
theorem op_addX {X : Cx} : OpR X (binaryOp .Add) (rAddX X.K) := op_add.or (op_add_str.or (op_catA.or op_cat))
theorem tx_append (a b : List Nat) : tx a ++ tx b = tx (a ++ b) := TL.ext_tl (by rw [TL.tl_append]; simp [tx])
theorem rep_nil_iff {ds : List D} {vs : List V} (h : Reps Γ S ds vs) : vs = [] ↔ ds = [] := by
  have := h.length
  constructor
  · intro q; rw [q] at this; exact List.length_eq_zero_iff.mp this.symm
  · intro q; rw [q] at this; exact List.length_eq_zero_iff.mp this
theorem addD_ok : OpD Γ (rAddX Γ.K) addD := ⟨by
  intro S H a b x y s Q e ha hb hf g
  unfold addD at hf
  split at hf
  · cases hf
    exact .inl ⟨_, _, ha.int, hb.int, g.val e rfl⟩
  · split at hf
    · rename_i i j hz
      cases hf
      refine .inr (.inl ⟨_, _, ha.str, hb.str, by rw [tx_len, tx_len]; exact okL_le hz, ?_⟩)
      rw [tx_append]
      exact g.val e rfl
    · cases hf
  · split at hf
    · rename_i i j hz
      cases hf
      obtain ⟨p, vs, rfl, h1, h2⟩ := ha.tup
      obtain ⟨q, ws, rfl, h3, h4⟩ := hb.tup
      refine .inr (.inr (.inl ⟨p, q, vs, ws, rfl, rfl, .inl (.inl (e _ _ h1)), .inl (.inl (e _ _ h3)), by rw [h2.length, h4.length]; exact okL_le hz, fun z => ?_, fun z1 z2 => ?_, fun z1 z2 => ?_⟩))
      · have : i = [] := (rep_nil_iff h2).mp z
        subst this
        exact g.val e ⟨q, ws, rfl, h3, by simpa using h4⟩
      · have : j = [] := (rep_nil_iff h4).mp z2
        subst this
        exact g.val e ⟨p, vs, rfl, h1, by simpa using h2⟩
      · exact g.newT e (h2.append h4)
    · cases hf
  · split at hf
    · rename_i i j hz
      cases hf
      obtain ⟨p, vs, rfl, h1, h2⟩ := ha.lst
      obtain ⟨q, ws, rfl, h3, h4⟩ := hb.lst
      exact .inr (.inr (.inr ⟨p, q, vs, ws, rfl, rfl, h1, h3, by rw [h2.length, h4.length]; exact okL_le hz, g.newL e (h2.append h4)⟩))
    · cases hf
  · cases hf⟩
def subD : D → D → Option Sl
  | .int i, .int j => some (.sh (.int (i - j)))
  | _, _ => none
theorem subD_ok : OpD Γ (rI0 fun i j => .int (i - j)) subD := ⟨by
  intro S H a b x y s Q e ha hb hf g
  unfold subD at hf
  split at hf
  · cases hf
    exact ⟨_, _, ha.int, hb.int, g.val e rfl⟩
  · cases hf⟩
def mulOk (i j : Int) : Bool := Nat.blt i.natAbs 18446744073709551616 || Nat.blt j.natAbs 18446744073709551616 || Nat.blt (i.natAbs.log2 + j.natAbs.log2) 1000000
theorem mulOk_ok {i j : Int} (h : mulOk i j = true) : IntMulOk i j := by
  unfold mulOk at h
  rw [Bool.or_eq_true, Bool.or_eq_true] at h
  rcases h with (h | h) | h
  · have h := Nat.lt_of_lt_of_le (Nat.lt_of_succ_le (Nat.le_of_ble_eq_true h)) (Nat.le_refl _)
    exact IntMulOk.of_left (intBits_le_64 (by omega) (by omega))
  · have h := Nat.lt_of_lt_of_le (Nat.lt_of_succ_le (Nat.le_of_ble_eq_true h)) (Nat.le_refl _)
    exact IntMulOk.of_right (intBits_le_64 (by omega) (by omega))
  · exact CMulW.ok (Nat.lt_of_succ_le (Nat.le_of_ble_eq_true h))
def mulD : D → D → Option Sl
  | .int i, .int j => if mulOk i j = true then some (.sh (.int (i * j))) else none
  | .lst a, .int k => if okL (a.length * k.toNat) && decide (k.natAbs < 100000) then some (.ow (.lst (List.replicate k.toNat a).flatten)) else none
  | _, _ => none
def rMulX : R2 := fun x y H Q => rI (fun i j => IntMulOk i j) (fun i j => .int (i * j)) x y H Q ∨ rRep x y H Q
theorem op_mulX {X : Cx} : OpR X (binaryOp .Mult) rMulX := OpR.or (opI fun _ _ _ _ _ _ _ hc q => mul_int q hc) op_rep
theorem Reps.rep {ds : List D} {vs : List V} (h : Reps Γ S ds vs) : ∀ n : Nat, Reps Γ S (List.replicate n ds).flatten (List.replicate n vs).flatten
  | 0 => rfl
  | n + 1 => by
    rw [List.replicate_succ, List.replicate_succ, List.flatten_cons, List.flatten_cons]
    exact h.append (Reps.rep h n)
theorem mulD_ok : OpD Γ rMulX mulD := ⟨by
  intro S H a b x y s Q e ha hb hf g
  unfold mulD at hf
  split at hf
  · split at hf
    · rename_i hz
      cases hf
      exact .inl ⟨_, _, ha.int, hb.int, mulOk_ok hz, g.val e rfl⟩
    · cases hf
  · split at hf
    · rename_i ds k hz
      cases hf
      rw [Bool.and_eq_true, decide_eq_true_eq] at hz
      obtain ⟨p, vs, rfl, h1, h2⟩ := ha.lst
      exact .inr ⟨p, k, vs, rfl, hb.int, h1, by omega, by omega, by rw [h2.length]; exact okL_le hz.1, g.newL e (h2.rep _)⟩
    · cases hf
  · cases hf⟩
def divD : D → D → Option Sl
  | .int i, .int j => if decide (0 < j) && Nat.blt j.natAbs.log2 9000 then some (.sh (.int (i / j))) else none
  | _, _ => none
theorem divD_ok : OpD Γ (rI CDivW fun i j => .int (i / j)) divD := ⟨by
  intro S H a b x y s Q e ha hb hf g
  unfold divD at hf
  split at hf
  · split at hf
    · rename_i hz
      cases hf
      rw [Bool.and_eq_true, decide_eq_true_eq] at hz
      exact ⟨_, _, ha.int, hb.int, ⟨hz.1, Nat.lt_of_succ_le (Nat.le_of_ble_eq_true hz.2)⟩, g.val e rfl⟩
    · cases hf
  · cases hf⟩
def modD : D → D → Option Sl
  | .int i, .int j => if decide (0 < j) then some (.sh (.int (i % j))) else none
  | _, _ => none
theorem modD_ok : OpD Γ (rI (fun _ j => 0 < j) fun i j => .int (i % j)) modD := ⟨by
  intro S H a b x y s Q e ha hb hf g
  unfold modD at hf
  split at hf
  · split at hf
    · rename_i hz
      cases hf
      exact ⟨_, _, ha.int, hb.int, of_decide_eq_true hz, g.val e rfl⟩
    · cases hf
  · cases hf⟩
def powD : D → D → Option Sl
  | .int i, .int j => if decide (0 ≤ j) && decide (j ≤ 1000) && Nat.blt i.natAbs 18446744073709551616 then some (.sh (.int (i ^ j.toNat))) else none
  | _, _ => none
theorem powD_ok : OpD Γ (rI CPow fun i j => .int (i ^ j.toNat)) powD := ⟨by
  intro S H a b x y s Q e ha hb hf g
  unfold powD at hf
  split at hf
  · split at hf
    · rename_i hz
      cases hf
      rw [Bool.and_eq_true, Bool.and_eq_true, decide_eq_true_eq, decide_eq_true_eq] at hz
      exact ⟨_, _, ha.int, hb.int, ⟨hz.1.1, by omega, Nat.lt_of_lt_of_le (Nat.lt_of_succ_le (Nat.le_of_ble_eq_true hz.2)) (by decide)⟩, g.val e rfl⟩
    · cases hf
  · cases hf⟩
def negD : D → Option Sl
  | .int i => some (.sh (.int (-i)))
  | _ => none
theorem negD_ok : UnD Γ (rU fun i => .int (-i)) negD := ⟨by
  intro S H a x s Q e ha hf g
  unfold negD at hf
  split at hf
  · cases hf
    exact ⟨_, ha.int, g.val e rfl⟩
  · cases hf⟩

/-! ### comparisons -/
def cmpI (p : Int → Int → Bool) : D → D → Option Sl
  | .int i, .int j => some (.sh (.bl (p i j)))
  | _, _ => none
theorem cmpI_ok {p : Int → Int → Bool} : OpD Γ (rI0 fun i j => .bl (p i j)) (cmpI p) := ⟨by
  intro S H a b x y s Q e ha hb hf g
  unfold cmpI at hf
  split at hf
  · cases hf
    exact ⟨_, _, ha.int, hb.int, g.val e rfl⟩
  · cases hf⟩
abbrev ltD : D → D → Option Sl := cmpI fun i j => decide (i < j)
abbrev leD : D → D → Option Sl := cmpI fun i j => decide (i ≤ j)
abbrev gtD : D → D → Option Sl := cmpI fun i j => decide (j < i)
abbrev geD : D → D → Option Sl := cmpI fun i j => decide (j ≤ i)

/- data as the library's -/
mutual
def py : D → PyData
  | .bl b => .bool b
  | .int i => .int i
  | .str s => .str (tx s)
  | .tup ds => .tuple (pys ds)
  | .lst ds => .list (pys ds)
  | _ => .none
def pys : List D → List PyData
  | [] => []
  | d :: ds => py d :: pys ds
end
mutual
def isPy : D → Bool
  | .non => true
  | .bl _ => true
  | .int _ => true
  | .str s => s.all fun c => Nat.blt c 1114112
  | .tup ds => isPys ds
  | .lst ds => isPys ds
  | _ => false
def isPys : List D → Bool
  | [] => true
  | d :: ds => isPy d && isPys ds
end
mutual
def dep : D → Nat
  | .tup ds => deps ds + 1
  | .lst ds => deps ds + 1
  | _ => 0
def deps : List D → Nat
  | [] => 0
  | d :: ds => max (dep d) (deps ds)
end
mutual
def deq : D → D → Bool
  | .non, .non => true
  | .bl a, .bl b => a == b
  | .bl a, .int j => (if a then 1 else 0) == j
  | .int i, .bl b => i == (if b then 1 else 0)
  | .int i, .int j => i == j
  | .str a, .str b => a == b
  | .tup a, .tup b => deqs a b
  | .lst a, .lst b => deqs a b
  | _, _ => false
def deqs : List D → List D → Bool
  | [], [] => true
  | a :: as, b :: bs => deq a b && deqs as bs
  | _, _ => false
end
theorem tx_beq (a b : List Nat) : (tx a == tx b) = (a == b) := by
  by_cases h : a = b
  · subst h; rw [beq_self_eq_true, beq_self_eq_true]
  · rw [beq_eq_false_iff_ne.mpr h, beq_eq_false_iff_ne.mpr fun q => h (tx_inj q)]
mutual
theorem deq_eqv : ∀ (a b : D), isPy a = true → isPy b = true → PyData.eqv (py a) (py b) = deq a b
  | .un, _, h, _ => by simp [isPy] at h
  | .scr _, _, h, _ => by simp [isPy] at h
  | .dct _ _, _, h, _ => by simp [isPy] at h
  | .ins _ _, _, h, _ => by simp [isPy] at h
  | .exc _ _, _, h, _ => by simp [isPy] at h
  | .non, b, _, h => by cases b <;> first | (simp [isPy] at h; done) | (simp [py, PyData.eqv, deq]; done)
  | .bl a, b, _, h => by cases b <;> first | (simp [isPy] at h; done) | (simp [py, PyData.eqv, deq]; done)
  | .int a, b, _, h => by cases b <;> first | (simp [isPy] at h; done) | (simp [py, PyData.eqv, deq]; done)
  | .str a, b, _, h => by cases b <;> first | (simp [isPy] at h; done) | (simp [py, PyData.eqv, deq, tx_beq]; done)
  | .tup as, b, h1, h2 => by
    cases b with
    | tup bs =>
      simp only [py, PyData.eqv, deq]
      exact deqs_eqv as bs (by simpa [isPy] using h1) (by simpa [isPy] using h2)
    | _ => first | (simp [isPy] at h2; done) | (simp [py, PyData.eqv, deq]; done)
  | .lst as, b, h1, h2 => by
    cases b with
    | lst bs =>
      simp only [py, PyData.eqv, deq]
      exact deqs_eqv as bs (by simpa [isPy] using h1) (by simpa [isPy] using h2)
    | _ => first | (simp [isPy] at h2; done) | (simp [py, PyData.eqv, deq]; done)
theorem deqs_eqv : ∀ (as bs : List D), isPys as = true → isPys bs = true → PyData.eqvAll (pys as) (pys bs) = deqs as bs
  | [], [], _, _ => by simp [pys, PyData.eqvAll, deqs]
  | [], _ :: _, _, _ => by simp [pys, PyData.eqvAll, deqs]
  | _ :: _, [], _, _ => by simp [pys, PyData.eqvAll, deqs]
  | a :: as, b :: bs, h1, h2 => by
    simp only [isPys, Bool.and_eq_true] at h1 h2
    simp only [pys, PyData.eqvAll, deqs]
    rw [deq_eqv a b h1.1 h2.1, deqs_eqv as bs h1.2 h2.2]
end
mutual
theorem lay_py : ∀ d : D, isPy d = true → (py d).canLay0 = true
  | .un, h => by simp [isPy] at h
  | .scr _, h => by simp [isPy] at h
  | .dct _ _, h => by simp [isPy] at h
  | .ins _ _, h => by simp [isPy] at h
  | .exc _ _, h => by simp [isPy] at h
  | .non, _ => by simp [py, PyData.canLay0]
  | .bl _, _ => by simp [py, PyData.canLay0]
  | .int _, _ => by simp [py, PyData.canLay0]
  | .str s, h => by
    simp only [isPy, List.all_eq_true] at h
    simp only [py, PyData.canLay0, PyData.strOk, tx]
    simp only [List.all_toArray, List.all_eq_true, decide_eq_true_eq]
    intro c hc
    exact Nat.lt_of_succ_le (Nat.le_of_ble_eq_true (h c hc))
  | .tup ds, h => by
    simp only [py, PyData.canLay0]
    exact lays_py ds (by simpa [isPy] using h)
  | .lst ds, h => by
    simp only [py, PyData.canLay0]
    exact lays_py ds (by simpa [isPy] using h)
theorem lays_py : ∀ ds : List D, isPys ds = true → PyData.canLayAll0 (pys ds) = true
  | [], _ => by simp [pys, PyData.canLayAll0]
  | d :: ds, h => by
    simp only [isPys, Bool.and_eq_true] at h
    simp only [pys, PyData.canLayAll0, lay_py d h.1, lays_py ds h.2, Bool.and_self]
end
mutual
theorem dep_py : ∀ d : D, (py d).depth = dep d
  | .un => by simp [py, dep, PyData.depth]
  | .scr _ => by simp [py, dep, PyData.depth]
  | .dct _ _ => by simp [py, dep, PyData.depth]
  | .ins _ _ => by simp [py, dep, PyData.depth]
  | .exc _ _ => by simp [py, dep, PyData.depth]
  | .non => by simp [py, dep, PyData.depth]
  | .bl _ => by simp [py, dep, PyData.depth]
  | .int _ => by simp [py, dep, PyData.depth]
  | .str _ => by simp [py, dep, PyData.depth]
  | .tup ds => by simp only [py, dep, PyData.depth]; rw [deps_py ds]
  | .lst ds => by simp only [py, dep, PyData.depth]; rw [deps_py ds]
theorem deps_py : ∀ ds : List D, PyData.depthAll (pys ds) = deps ds
  | [] => by simp [pys, deps, PyData.depthAll]
  | d :: ds => by simp only [pys, deps, PyData.depthAll]; rw [dep_py d, deps_py ds]
end
mutual
theorem dp_rep (e : Ex S H) : ∀ (d : D) (v : V), isPy d = true → Rep Γ S d v → Dp Γ.K H v (py d)
  | .un, _, h, _ => by simp [isPy] at h
  | .scr _, _, h, _ => by simp [isPy] at h
  | .dct _ _, _, h, _ => by simp [isPy] at h
  | .ins _ _, _, h, _ => by simp [isPy] at h
  | .exc _ _, _, h, _ => by simp [isPy] at h
  | .non, v, _, r => by have q : v = .non := r; subst q; simp only [py]; exact .non
  | .bl b, v, _, r => by have q : v = .bl b := r; subst q; simp only [py]; exact .bl b
  | .int i, v, _, r => by have q : v = .int i := r; subst q; simp only [py]; exact .int i
  | .str s, v, _, r => by have q : v = .str (tx s) := r; subst q; simp only [py]; exact .str _
  | .tup ds, v, h, ⟨a, vs, h1, h2, h3⟩ => by
    subst h1
    simp only [py]
    exact .tup (.inl (.inl (e _ _ h2))) (dps_rep e ds vs (by simpa [isPy] using h) h3)
  | .lst ds, v, h, ⟨a, vs, h1, h2, h3⟩ => by
    subst h1
    simp only [py]
    exact .lst (.inl (.inl (e _ _ h2))) (dps_rep e ds vs (by simpa [isPy] using h) h3)
theorem dps_rep (e : Ex S H) : ∀ (ds : List D) (vs : List V), isPys ds = true → Reps Γ S ds vs → DpAll Γ.K H vs (pys ds)
  | [], vs, _, r => by have q : vs = [] := r; subst q; simp only [pys]; exact .nil
  | d :: ds, vs, h, ⟨v, w, h1, h2, h3⟩ => by
    subst h1
    simp only [isPys, Bool.and_eq_true] at h
    simp only [pys]
    exact .cons (dp_rep e d v h.1 h2) (dps_rep e ds w h.2 h3)
end
theorem dp_lk (e : Ex S H) (h : isPy d = true) (r : Lk Γ S H d v) : Dp Γ.K H v (py d) := by
  cases d with
  | lst ds =>
    obtain ⟨a, vs, rfl, h2, h3⟩ := r
    simp only [py]
    exact .lst (.inl (.inl h2)) (dps_rep e ds vs (by simpa [isPy] using h) h3)
  | dct ks ws => simp [isPy] at h
  | ins c fs => simp [isPy] at h
  | un => exact dp_rep e _ _ h r
  | non => exact dp_rep e _ _ h r
  | bl _ => exact dp_rep e _ _ h r
  | int _ => exact dp_rep e _ _ h r
  | str _ => exact dp_rep e _ _ h r
  | tup _ => exact dp_rep e _ _ h r
  | scr _ => exact dp_rep e _ _ h r
  | exc _ _ => exact dp_rep e _ _ h r
def okPy (d : D) : Bool := isPy d && Nat.ble (dep d) 64
theorem okPy_shaped (h : okPy d = true) : SeqAt.shaped (py d) = true := by
  unfold okPy at h
  rw [Bool.and_eq_true] at h
  unfold SeqAt.shaped
  rw [lay_py d h.1, dep_py, decide_eq_true (Nat.le_of_ble_eq_true h.2)]
  rfl
def eqD (a b : D) : Option Sl := if okPy a && okPy b then some (.sh (.bl (deq a b))) else none
def neD (a b : D) : Option Sl := if okPy a && okPy b then some (.sh (.bl (!deq a b))) else none
theorem okPy_py (h : okPy d = true) : isPy d = true := (Bool.and_eq_true_iff.mp h).1
theorem eqD_ok : OpD Γ (rEqD Γ.K) eqD := ⟨by
  intro S H a b x y s Q e ha hb hf g
  unfold eqD at hf
  split at hf
  · rename_i h
    cases hf
    rw [Bool.and_eq_true] at h
    refine ⟨py a, py b, dp_lk e (okPy_py h.1) ha, dp_lk e (okPy_py h.2) hb, okPy_shaped h.1, okPy_shaped h.2, ?_⟩
    rw [deq_eqv a b (okPy_py h.1) (okPy_py h.2)]
    exact g.val e rfl
  · cases hf⟩
theorem neD_ok : OpD Γ (rNeD Γ.K) neD := ⟨by
  intro S H a b x y s Q e ha hb hf g
  unfold neD at hf
  split at hf
  · rename_i h
    cases hf
    rw [Bool.and_eq_true] at h
    refine ⟨py a, py b, dp_lk e (okPy_py h.1) ha, dp_lk e (okPy_py h.2) hb, okPy_shaped h.1, okPy_shaped h.2, ?_⟩
    rw [deq_eqv a b (okPy_py h.1) (okPy_py h.2)]
    exact g.val e rfl
  · cases hf⟩
def isNonD : D → Bool
  | .non => true
  | _ => false
theorem lk_non : ∀ {d : D} {v : V}, Lk Γ S H d v → decide (v = .non) = isNonD d
  | .non, v, h => by have q : v = .non := h; subst q; rfl
  | .bl b, v, h => by have q : v = .bl b := h; subst q; rfl
  | .int b, v, h => by have q : v = .int b := h; subst q; rfl
  | .str b, v, h => by have q : v = .str (tx b) := h; subst q; rfl
  | .tup ds, v, ⟨a, vs, h1, _⟩ => by subst h1; rfl
  | .lst ds, v, ⟨a, vs, h1, _⟩ => by subst h1; rfl
  | .scr ds, v, ⟨a, h1, _⟩ => by subst h1; rfl
  | .dct _ ds, v, ⟨a, vs, h1, _⟩ => by subst h1; rfl
  | .ins _ ds, v, ⟨a, dx, vs, h1, _⟩ => by subst h1; rfl
  | .exc _ ds, v, ⟨a, dx, vs, h1, _⟩ => by subst h1; rfl
def isD (a b : D) : Option Sl := match b with
  | .non => some (.sh (.bl (isNonD a)))
  | _ => none
def isNotD (a b : D) : Option Sl := match b with
  | .non => some (.sh (.bl (!isNonD a)))
  | _ => none
theorem isD_ok : OpD Γ (fun x y H Q => y = .non ∧ Q (.bl (decide (x = .non))) H) isD := ⟨by
  intro S H a b x y s Q e ha hb hf g
  unfold isD at hf
  split at hf
  · cases hf
    exact ⟨hb.non, by rw [lk_non ha]; exact g.val e rfl⟩
  · cases hf⟩
theorem isNotD_ok : OpD Γ (fun x y H Q => y = .non ∧ Q (.bl (!decide (x = .non))) H) isNotD := ⟨by
  intro S H a b x y s Q e ha hb hf g
  unfold isNotD at hf
  split at hf
  · cases hf
    exact ⟨hb.non, by rw [lk_non ha]; exact g.val e rfl⟩
  · cases hf⟩
/-- x in y: one sign in a text; flat things in a list or a tuple -/
def flatD : D → Bool
  | .non => true
  | .bl _ => true
  | .int _ => true
  | .str _ => true
  | _ => false
theorem flat_rep : ∀ {d : D} {v : V}, flatD d = true → Rep Γ S d v → flatV v = true
  | .non, v, _, h => by have q : v = .non := h; subst q; rfl
  | .bl b, v, _, h => by have q : v = .bl b := h; subst q; rfl
  | .int b, v, _, h => by have q : v = .int b := h; subst q; rfl
  | .str b, v, _, h => by have q : v = .str (tx b) := h; subst q; rfl
theorem flat_eq : ∀ {a b : D} {v w : V}, flatD a = true → flatD b = true → Rep Γ S a v → Rep Γ S b w → eqV v w = deq a b := by
  intro a b v w ha hb h1 h2
  cases a <;> simp only [flatD, Bool.false_eq_true] at ha <;> cases b <;> simp only [flatD, Bool.false_eq_true] at hb <;>
    (simp only [Rep] at h1 h2; subst h1; subst h2; first | rfl | (simp only [eqV, deq]; first | rfl | (simp; done) | exact tx_beq _ _))
theorem flats_rep : ∀ {ds : List D} {vs : List V}, ds.all flatD = true → Reps Γ S ds vs → vs.all flatV = true
  | [], _, _, h => by cases h; rfl
  | d :: ds, _, h, ⟨v, r, h1, h2, h3⟩ => by
    subst h1
    rw [List.all_cons, Bool.and_eq_true] at h ⊢
    exact ⟨flat_rep h.1 h2, flats_rep h.2 h3⟩
theorem inV_rep {a : D} {v : V} (ha : flatD a = true) (h1 : Rep Γ S a v) : ∀ {ds : List D} {vs : List V}, ds.all flatD = true → Reps Γ S ds vs → inV v vs = ds.any fun z => deq z a
  | [], _, _, h => by cases h; rfl
  | d :: ds, _, h, ⟨w, r, q1, q2, q3⟩ => by
    subst q1
    rw [List.all_cons, Bool.and_eq_true] at h
    show (eqV w v || inV v r) = (deq d a || ds.any fun z => deq z a)
    rw [flat_eq h.1 ha q2 h1, inV_rep ha h1 h.2 q3]
def inDB (a b : D) : Option Bool := match a, b with
  | .str [c], .str z => some (z.contains c)
  | a, .tup ds => if flatD a && ds.all flatD then some (ds.any fun z => deq z a) else none
  | a, .lst ds => if flatD a && ds.all flatD then some (ds.any fun z => deq z a) else none
  | _, _ => none
def inD (a b : D) : Option Sl := (inDB a b).map fun k => .sh (.bl k)
def notInD (a b : D) : Option Sl := (inDB a b).map fun k => .sh (.bl (!k))
def rInX (K : PySem.W.Frag) : R2 := fun x y H Q => (∃ (c : Nat) (z : Str), x = .str ⟨#[c]⟩ ∧ y = .str z ∧ Q (.bl (decide (c ∈ z.cps.toList))) H) ∨ rIn K false x y H Q
def rNotInX (K : PySem.W.Frag) : R2 := fun x y H Q => (∃ (c : Nat) (z : Str), x = .str ⟨#[c]⟩ ∧ y = .str z ∧ Q (.bl (!decide (c ∈ z.cps.toList))) H) ∨ rIn K true x y H Q
theorem op_inX {X : Cx} : OpR X (compareOp .In) (rInX X.K) := op_in_sign.or op_in_seq
theorem op_notInX {X : Cx} : OpR X (compareOp .NotIn) (rNotInX X.K) := op_notIn_sign.or op_notIn_seq
theorem flat_lk {a : D} {v : V} (h : flatD a = true) (r : Lk Γ S H a v) : Rep Γ S a v := by
  cases a <;> first | exact r | (simp [flatD] at h; done)
theorem in_contains (c : Nat) (z : List Nat) : decide (c ∈ (tx z).cps.toList) = z.contains c := by
  rw [tx_cps]
  by_cases h : c ∈ z
  · rw [decide_eq_true h, List.contains_iff_mem.mpr h]
  · rw [decide_eq_false h]
    cases q : z.contains c with
    | false => rfl
    | true => exact absurd (List.contains_iff_mem.mp q) h
theorem inD_ok : OpD Γ (rInX Γ.K) inD := ⟨by
  intro S H a b x y s Q e ha hb hf g
  unfold inD inDB at hf
  split at hf
  · cases hf
    refine .inl ⟨_, _, ha.str, hb.str, ?_⟩
    rw [in_contains]
    exact g.val e rfl
  · split at hf
    · rename_i hz
      cases hf
      rw [Bool.and_eq_true] at hz
      obtain ⟨p, vs, rfl, h1, h2⟩ := hb.tup
      refine .inr ⟨p, vs, rfl, .inr (.inl (.inl (e _ _ h1))), flat_rep hz.1 (flat_lk hz.1 ha), flats_rep hz.2 h2, ?_⟩
      simp only [Bool.false_eq_true, if_false]
      rw [inV_rep hz.1 (flat_lk hz.1 ha) hz.2 h2]
      exact g.val e rfl
    · cases hf
  · split at hf
    · rename_i hz
      cases hf
      rw [Bool.and_eq_true] at hz
      obtain ⟨p, vs, rfl, h1, h2⟩ := hb.lst
      refine .inr ⟨p, vs, rfl, .inl (.inl (.inl h1)), flat_rep hz.1 (flat_lk hz.1 ha), flats_rep hz.2 h2, ?_⟩
      simp only [Bool.false_eq_true, if_false]
      rw [inV_rep hz.1 (flat_lk hz.1 ha) hz.2 h2]
      exact g.val e rfl
    · cases hf
  · cases hf⟩
theorem notInD_ok : OpD Γ (rNotInX Γ.K) notInD := ⟨by
  intro S H a b x y s Q e ha hb hf g
  unfold notInD inDB at hf
  split at hf
  · cases hf
    refine .inl ⟨_, _, ha.str, hb.str, ?_⟩
    rw [in_contains]
    exact g.val e rfl
  · split at hf
    · rename_i hz
      cases hf
      rw [Bool.and_eq_true] at hz
      obtain ⟨p, vs, rfl, h1, h2⟩ := hb.tup
      refine .inr ⟨p, vs, rfl, .inr (.inl (.inl (e _ _ h1))), flat_rep hz.1 (flat_lk hz.1 ha), flats_rep hz.2 h2, ?_⟩
      simp only [if_true]
      rw [inV_rep hz.1 (flat_lk hz.1 ha) hz.2 h2]
      exact g.val e rfl
    · cases hf
  · split at hf
    · rename_i hz
      cases hf
      rw [Bool.and_eq_true] at hz
      obtain ⟨p, vs, rfl, h1, h2⟩ := hb.lst
      refine .inr ⟨p, vs, rfl, .inl (.inl (.inl h1)), flat_rep hz.1 (flat_lk hz.1 ha), flats_rep hz.2 h2, ?_⟩
      simp only [if_true]
      rw [inV_rep hz.1 (flat_lk hz.1 ha) hz.2 h2]
      exact g.val e rfl
    · cases hf
  · cases hf⟩
end
end PM

set_option Elab.async false
set_option linter.all false
set_option maxRecDepth 100000
set_option maxHeartbeats 4000000
/-! PM, part h: built-in calls, subscripts, slices, methods, stores, what is walked. -/
namespace PM
open PySem PySem.Spec PyProof.Rows L2

section
variable {Γ : Cfg} {W : WX} {A : Nat → Bool} {S H : Hp} {x y v : V} {d e : D} {Q : VK}
theorem Lks.one {ds : List D} {vs : List V} {a : D} (h : Lks Γ S H ds vs) (e : ds = [a]) : ∃ x, vs = [x] ∧ Lk Γ S H a x := by
  subst e
  obtain ⟨v, r, rfl, h1, h2⟩ := h
  have h2 : r = [] := h2
  subst h2
  exact ⟨v, rfl, h1⟩
theorem Lks.two {ds : List D} {vs : List V} {a b : D} (h : Lks Γ S H ds vs) (e : ds = [a, b]) : ∃ x y, vs = [x, y] ∧ Lk Γ S H a x ∧ Lk Γ S H b y := by
  subst e
  obtain ⟨v, r, rfl, h1, w, r2, rfl, h2, h3⟩ := h
  have h3 : r2 = [] := h3
  subst h3
  exact ⟨v, w, rfl, h1, h2⟩
theorem Lk.scr {ns : List Int} (h : Lk Γ S H (.scr ns) x) : ∃ a, x = .ref a ∧ SqL Γ.K S a (ns.map V.int) := h

/-! ### len -/
def lenD : List D → Option Sl
  | [.str s] => if okL s.length = true then some (.sh (.int s.length)) else none
  | [.tup ds] => some (.sh (.int ds.length))
  | [.lst ds] => some (.sh (.int ds.length))
  | [.scr ds] => some (.sh (.int ds.length))
  | _ => none
def rLenX (K : PySem.W.Frag) : List V → Hp → VK → Prop := fun xs H Q => (∃ p ys, xs = [.ref p] ∧ (SqL K H p ys ∨ SqT K H p ys) ∧ Q (.int ys.length) H) ∨ (∃ z, xs = [.str z] ∧ z.length ≤ sizeLine ∧ Q (.int z.length) H)
theorem call_lenX {X : Cx} : CallR X (.builtin "len") (rLenX X.K) := CallR.or call_len_seq call_len_str
theorem lenD_ok : CbD Γ (rLenX Γ.K) lenD := ⟨by
  intro S H ds vs s Q e h hf g
  unfold lenD at hf
  split at hf
  · split at hf
    · rename_i z hz
      cases hf
      obtain ⟨x, rfl, h1⟩ := h.one rfl
      have := h1.str
      subst this
      refine .inr ⟨_, rfl, by rw [tx_len]; exact okL_le hz, ?_⟩
      rw [tx_len]
      exact g.val e rfl
    · cases hf
  · cases hf
    obtain ⟨x, rfl, h1⟩ := h.one rfl
    obtain ⟨p, vs, rfl, h2, h3⟩ := h1.tup
    refine .inl ⟨p, vs, rfl, .inr (.inl (.inl (e _ _ h2))), ?_⟩
    rw [h3.length]
    exact g.val e rfl
  · cases hf
    obtain ⟨x, rfl, h1⟩ := h.one rfl
    obtain ⟨p, vs, rfl, h2, h3⟩ := h1.lst
    refine .inl ⟨p, vs, rfl, .inl (.inl (.inl h2)), ?_⟩
    rw [h3.length]
    exact g.val e rfl
  · cases hf
    obtain ⟨x, rfl, h1⟩ := h.one rfl
    obtain ⟨p, rfl, h2⟩ := h1.scr
    refine .inl ⟨p, _, rfl, .inl (sql_ex e h2), ?_⟩
    rw [List.length_map]
    exact g.val e rfl
  · cases hf⟩

/-! ### abs, int, str, min, max, sum, all, any -/
def absD : List D → Option Sl
  | [.int i] => some (.sh (.int (if i < 0 then -i else i)))
  | _ => none
theorem absD_ok : CbD Γ (fun xs H Q => ∃ i, xs = [.int i] ∧ Q (.int (if i < 0 then -i else i)) H) absD := ⟨by
  intro S H ds vs s Q e h hf g
  unfold absD at hf
  split at hf
  · cases hf
    obtain ⟨x, rfl, h1⟩ := h.one rfl
    have := h1.int
    subst this
    exact ⟨_, rfl, g.val e rfl⟩
  · cases hf⟩
def digB (s : List Nat) : Bool := s.all fun c => Nat.ble 48 c && Nat.ble c 57
def digV (s : List Nat) : Nat := s.foldl (fun a c => a * 10 + (c - 48)) 0
def intD : List D → Option Sl
  | [.int i] => some (.sh (.int i))
  | [.bl b] => some (.sh (.int (if b then 1 else 0)))
  | [.str s] => if digB s && (!s.isEmpty && Nat.ble s.length 640) then some (.sh (.int (digV s))) else none
  | _ => none
def rIntX : List V → Hp → VK → Prop := fun xs H Q => ((∃ i, xs = [.int i] ∧ Q (.int i) H) ∨ ∃ k, xs = [.bl k] ∧ Q (.int (if k then 1 else 0)) H) ∨ (∃ a n, xs = [.str a] ∧ PySem.intText? a = some n ∧ a.length ≤ 640 ∧ Q (.int n) H)
theorem call_intX {X : Cx} : CallR X (.type "int") rIntX := CallR.or call_int1 call_int_str
theorem intText_dig {s : List Nat} (h : digB s = true) (h1 : s ≠ []) (h2 : s.length ≤ 640) : PySem.intText? (tx s) = some (digV s : Int) := by
  have z := intText_digits (x := tx s) (by
    rw [tx_cps]
    intro c hc
    have q := List.all_eq_true.mp h c hc
    rw [Bool.and_eq_true] at q
    exact ⟨Nat.le_of_ble_eq_true q.1, Nat.le_of_ble_eq_true q.2⟩) (by rw [tx_cps]; exact h1) (by rw [tx_len]; omega)
  rw [z, tx_cps] <;> rfl
theorem intD_ok : CbD Γ rIntX intD := ⟨by
  intro S H ds vs s Q e h hf g
  unfold intD at hf
  split at hf
  · cases hf
    obtain ⟨x, rfl, h1⟩ := h.one rfl
    have := h1.int
    subst this
    exact .inl (.inl ⟨_, rfl, g.val e rfl⟩)
  · cases hf
    obtain ⟨x, rfl, h1⟩ := h.one rfl
    have := h1.bl
    subst this
    exact .inl (.inr ⟨_, rfl, g.val e rfl⟩)
  · split at hf
    · rename_i z hz
      cases hf
      rw [Bool.and_eq_true, Bool.and_eq_true] at hz
      obtain ⟨x, rfl, h1⟩ := h.one rfl
      have := h1.str
      subst this
      have hl := Nat.le_of_ble_eq_true hz.2.2
      exact .inr ⟨_, _, rfl, intText_dig hz.1 (by intro q; rw [q] at hz; simp at hz) hl, by rw [tx_len]; exact hl, g.val e rfl⟩
    · cases hf
  · cases hf⟩
/-- the signs of a number -/
def numT (i : Int) : List Nat := if i < 0 then 45 :: TL.numL i.natAbs else TL.numL i.natAbs
def strD : List D → Option Sl
  | [.int i] => if decide (0 ≤ i) && Nat.blt i.natAbs.log2 1920 then some (.sh (.str (TL.numL i.natAbs))) else none
  | _ => none
theorem strD_ok : CbD Γ (fun xs H Q => ∃ i, xs = [.int i] ∧ i.natAbs.log2 < 1920 ∧ Q (.str (toString i)) H) strD := ⟨by
  intro S H ds vs s Q e h hf g
  unfold strD at hf
  split at hf
  · split at hf
    · rename_i i hz
      cases hf
      rw [Bool.and_eq_true, decide_eq_true_eq] at hz
      obtain ⟨x, rfl, h1⟩ := h.one rfl
      have := h1.int
      subst this
      refine ⟨_, rfl, Nat.lt_of_succ_le (Nat.le_of_ble_eq_true hz.2), ?_⟩
      have ei : i = ((i.natAbs : Nat) : Int) := by omega
      have et : (Str.ofString (toString i)) = tx (TL.numL i.natAbs) := by
        rw [ei]
        exact TL.ext_tl (by rw [TL.tl_num]; simp [tx])
      rw [et]
      exact g.val e rfl
    · cases hf
  · cases hf⟩
def minD : List D → Option Sl
  | [.int i, .int j] => some (.sh (.int (if j < i then j else i)))
  | _ => none
def maxD : List D → Option Sl
  | [.int i, .int j] => some (.sh (.int (if i < j then j else i)))
  | _ => none
theorem minD_ok : CbD Γ (fun xs H Q => ∃ i j, xs = [.int i, .int j] ∧ Q (.int (if j < i then j else i)) H) minD := ⟨by
  intro S H ds vs s Q e h hf g
  unfold minD at hf
  split at hf
  · cases hf
    obtain ⟨x, y, rfl, h1, h2⟩ := h.two rfl
    have := h1.int
    subst this
    have := h2.int
    subst this
    exact ⟨_, _, rfl, g.val e rfl⟩
  · cases hf⟩
theorem maxD_ok : CbD Γ (fun xs H Q => ∃ i j, xs = [.int i, .int j] ∧ Q (.int (if j > i then j else i)) H) maxD := ⟨by
  intro S H ds vs s Q e h hf g
  unfold maxD at hf
  split at hf
  · cases hf
    obtain ⟨x, y, rfl, h1, h2⟩ := h.two rfl
    have := h1.int
    subst this
    have := h2.int
    subst this
    exact ⟨_, _, rfl, g.val e rfl⟩
  · cases hf⟩
def asInts : List D → Option (List Int)
  | [] => some []
  | .int i :: r => (asInts r).map (i :: ·)
  | _ => none
def asBls : List D → Option (List Bool)
  | [] => some []
  | .bl i :: r => (asBls r).map (i :: ·)
  | _ => none
theorem asInts_eq : ∀ {ds : List D} {ns : List Int}, asInts ds = some ns → ds = ns.map D.int
  | [], ns, h => by cases h; rfl
  | d :: ds, ns, h => by
    cases d with
    | int i =>
      cases e : asInts ds with
      | none => simp [asInts, e] at h
      | some r =>
        simp only [asInts, e, Option.map_some, Option.some.injEq] at h
        subst h
        rw [asInts_eq e] <;> rfl
    | _ => simp [asInts] at h
theorem asBls_eq : ∀ {ds : List D} {ns : List Bool}, asBls ds = some ns → ds = ns.map D.bl
  | [], ns, h => by cases h; rfl
  | d :: ds, ns, h => by
    cases d with
    | bl i =>
      cases e : asBls ds with
      | none => simp [asBls, e] at h
      | some r =>
        simp only [asBls, e, Option.map_some, Option.some.injEq] at h
        subst h
        rw [asBls_eq e] <;> rfl
    | _ => simp [asBls] at h
def allD : List D → Option Sl
  | [.lst ds] => (asBls ds).map fun bs => .sh (.bl (bs.all id))
  | _ => none
def anyD : List D → Option Sl
  | [.lst ds] => (asBls ds).map fun bs => .sh (.bl (bs.any id))
  | _ => none
def sumD : List D → Option Sl
  | [.lst ds] => (asInts ds).map fun ns => .sh (.int ns.sum)
  | _ => none
theorem allD_ok : CbD Γ (rAll Γ.K) allD := ⟨by
  intro S H ds vs s Q e h hf g
  unfold allD at hf
  split at hf
  · rename_i ds
    cases q : asBls ds with
    | none => rw [q] at hf; cases hf
    | some bs =>
      rw [q] at hf
      cases hf
      obtain ⟨x, rfl, h1⟩ := h.one rfl
      obtain ⟨p, vs, rfl, h2, h3⟩ := h1.lst
      rw [asBls_eq q] at h3
      have := h3.bls
      subst this
      exact ⟨p, bs, rfl, .inl (.inl h2), g.val e rfl⟩
  · cases hf⟩
theorem anyD_ok : CbD Γ (rAny Γ.K) anyD := ⟨by
  intro S H ds vs s Q e h hf g
  unfold anyD at hf
  split at hf
  · rename_i ds
    cases q : asBls ds with
    | none => rw [q] at hf; cases hf
    | some bs =>
      rw [q] at hf
      cases hf
      obtain ⟨x, rfl, h1⟩ := h.one rfl
      obtain ⟨p, vs, rfl, h2, h3⟩ := h1.lst
      rw [asBls_eq q] at h3
      have := h3.bls
      subst this
      exact ⟨p, bs, rfl, .inl (.inl h2), g.val e rfl⟩
  · cases hf⟩
theorem sumD_ok : CbD Γ (rSum Γ.K) sumD := ⟨by
  intro S H ds vs s Q e h hf g
  unfold sumD at hf
  split at hf
  · rename_i ds
    cases q : asInts ds with
    | none => rw [q] at hf; cases hf
    | some bs =>
      rw [q] at hf
      cases hf
      obtain ⟨x, rfl, h1⟩ := h.one rfl
      obtain ⟨p, vs, rfl, h2, h3⟩ := h1.lst
      rw [asInts_eq q] at h3
      have := h3.ints
      subst this
      exact ⟨p, bs, rfl, .inl (.inl h2), g.val e rfl⟩
  · cases hf⟩
/-! ### list(..), tuple(..) -/
def listD : List D → Option Sl
  | [.lst ds] => some (.ow (.lst ds))
  | [.tup ds] => some (.ow (.lst ds))
  | [.scr ns] => some (.ow (.lst (ns.map D.int)))
  | _ => none
def tupleD : List D → Option Sl
  | [.lst ds] => some (.sh (.tup ds))
  | [.tup ds] => some (.sh (.tup ds))
  | _ => none
theorem listD_ok : CbD Γ (fun xs H Q => ∃ p ys, xs = [.ref p] ∧ (SqL Γ.K H p ys ∨ SqT Γ.K H p ys) ∧ ∀ l, H l = none → Q (.ref l) (upd H l (.lst ys))) listD := ⟨by
  intro S H ds vs s Q e h hf g
  unfold listD at hf
  split at hf
  · cases hf
    obtain ⟨x, rfl, h1⟩ := h.one rfl
    obtain ⟨p, vs, rfl, h2, h3⟩ := h1.lst
    exact ⟨p, vs, rfl, .inl (.inl (.inl h2)), g.newL e h3⟩
  · cases hf
    obtain ⟨x, rfl, h1⟩ := h.one rfl
    obtain ⟨p, vs, rfl, h2, h3⟩ := h1.tup
    exact ⟨p, vs, rfl, .inr (.inl (.inl (e _ _ h2))), g.newL e h3⟩
  · cases hf
    obtain ⟨x, rfl, h1⟩ := h.one rfl
    obtain ⟨p, rfl, h2⟩ := h1.scr
    exact ⟨p, _, rfl, .inl (sql_ex e h2), g.newL e (Reps.of_ints _)⟩
  · cases hf⟩
theorem tupleD_ok : CbD Γ (fun xs H Q => ∃ p ys, xs = [.ref p] ∧ ((SqL Γ.K H p ys ∧ ∀ l, H l = none → Q (.ref l) (upd H l (.tup ys))) ∨ (SqT Γ.K H p ys ∧ Q (.ref p) H))) tupleD := ⟨by
  intro S H ds vs s Q e h hf g
  unfold tupleD at hf
  split at hf
  · cases hf
    obtain ⟨x, rfl, h1⟩ := h.one rfl
    obtain ⟨p, vs, rfl, h2, h3⟩ := h1.lst
    exact ⟨p, vs, rfl, .inl ⟨.inl (.inl h2), g.newT e h3⟩⟩
  · cases hf
    obtain ⟨x, rfl, h1⟩ := h.one rfl
    obtain ⟨p, vs, rfl, h2, h3⟩ := h1.tup
    exact ⟨p, vs, rfl, .inr ⟨.inl (.inl (e _ _ h2)), g.val e ⟨p, vs, rfl, h2, h3⟩⟩⟩
  · cases hf⟩

/-! ### xs[i] -/
def atD {α : Type} (xs : List α) (i : Int) : Option α := if 0 ≤ i then (if i < xs.length then xs[i.toNat]? else none) else (if -(xs.length : Int) ≤ i then xs[(i + xs.length).toNat]? else none)
theorem atI_atD {α : Type} (xs : List α) (i : Int) : atI xs i = atD xs i := by
  unfold atI ixN atD
  split
  · split <;> rfl
  · split <;> rfl
def ixD : D → D → Option Sl
  | .lst ds, .int i => (atD ds i).map .sh
  | .tup ds, .int i => (atD ds i).map .sh
  | .str s, .int i => if okL s.length = true then (atD s i).map fun c => .sh (.str [c]) else none
  | .scr ns, .int i => (atD ns i).map fun n => .sh (.int n)
  | _, _ => none
theorem atD_rep {ds : List D} {vs : List V} {i : Int} {d : D} (h : Reps Γ S ds vs) (e : atD ds i = some d) : ∃ v, atI vs i = some v ∧ Rep Γ S d v := by
  rw [atI_atD]
  unfold atD at e ⊢
  rw [h.length]
  split at e
  · split at e
    · rename_i h1 h2
      rw [if_pos h1, if_pos h2]
      exact h.get e
    · cases e
  · split at e
    · rename_i h1 h2
      rw [if_neg h1, if_pos h2]
      exact h.get e
    · cases e
theorem atD_map {α β : Type} (f : α → β) (xs : List α) (i : Int) : atD (xs.map f) i = (atD xs i).map f := by
  unfold atD
  rw [List.length_map]
  split
  · split
    · rw [List.getElem?_map]
    · rfl
  · split
    · rw [List.getElem?_map]
    · rfl
theorem ixD_ok : OpD Γ (rIx Γ.K) ixD := ⟨by
  intro S H a b x y s Q e ha hb hf g
  unfold ixD at hf
  split at hf
  · rename_i ds i
    cases q : atD ds i with
    | none => rw [q] at hf; cases hf
    | some d =>
      rw [q] at hf
      cases hf
      obtain ⟨p, vs, rfl, h1, h2⟩ := ha.lst
      obtain ⟨v, h3, h4⟩ := atD_rep h2 q
      exact .inl ⟨p, vs, i, v, rfl, hb.int, .inl (.inl h1), h3, g.val e h4⟩
  · rename_i ds i
    cases q : atD ds i with
    | none => rw [q] at hf; cases hf
    | some d =>
      rw [q] at hf
      cases hf
      obtain ⟨p, vs, rfl, h1, h2⟩ := ha.tup
      obtain ⟨v, h3, h4⟩ := atD_rep h2 q
      exact .inr (.inl ⟨p, vs, i, v, rfl, hb.int, .inl (.inl (e _ _ h1)), h3, g.val e h4⟩)
  · split at hf
    · rename_i z i hz
      cases q : atD z i with
      | none => rw [q] at hf; cases hf
      | some c =>
        rw [q] at hf
        cases hf
        refine .inr (.inr ⟨tx z, i, c, ha.str, hb.int, by rw [tx_len]; exact okL_le hz, by rw [tx_cps, atI_atD]; exact q, ?_⟩)
        exact g.val e rfl
    · cases hf
  · rename_i ns i
    cases q : atD ns i with
    | none => rw [q] at hf; cases hf
    | some d =>
      rw [q] at hf
      cases hf
      obtain ⟨p, rfl, h1⟩ := ha.scr
      exact .inl ⟨p, _, i, .int d, rfl, hb.int, sql_ex e h1, by rw [atI_atD, atD_map, q] <;> rfl, g.val e rfl⟩
  · cases hf⟩

/-! ### xs[a:b] -/
def cutD {α : Type} (xs : List α) (lo hi : Option Int) : List α := (xs.drop (HT.sIx xs.length 0 lo)).take (HT.sIx xs.length xs.length hi - HT.sIx xs.length 0 lo)
def slD (d : D) (lo hi : Option Int) : Option Sl := match d with
  | .lst ds => some (.ow (.lst (cutD ds lo hi)))
  | .tup ds => some (.sh (.tup (cutD ds lo hi)))
  | .scr ns => some (.ow (.lst ((cutD ns lo hi).map D.int)))
  | .str s => if okL s.length = true then some (.sh (.str (cutD s lo hi))) else none
  | _ => none
def rSlX (K : PySem.W.Frag) : V → Option Int → Option Int → Hp → VK → Prop := fun x lo hi H Q => rSlL K x lo hi H Q ∨ (rSlA K x lo hi H Q ∨ rSlS x lo hi H Q)
theorem sl_X {X : Cx} : L2.SlR X (rSlX X.K) := L2.SlR.or sl_list (L2.SlR.or sl_tupA sl_str)
theorem cutV_rep {ds : List D} {vs : List V} (lo hi : Option Int) (h : Reps Γ S ds vs) : Reps Γ S (cutD ds lo hi) (cutV vs lo hi) := by
  unfold cutD cutV
  rw [h.length]
  exact (h.drop _).take _
theorem slD_run {d : D} {x : V} {lo hi : Option Int} {s : Sl} (e : Ex S H) (h : Lk Γ S H d x) (hf : slD d lo hi = some s) (g : Give Γ S H s Q) : rSlX Γ.K x lo hi H Q := by
  unfold slD at hf
  split at hf
  · cases hf
    obtain ⟨p, vs, rfl, h1, h2⟩ := h.lst
    exact .inl ⟨p, vs, rfl, .inl (.inl h1), g.newL e (cutV_rep lo hi h2)⟩
  · rename_i ds
    cases hf
    obtain ⟨p, vs, rfl, h1, h2⟩ := h.tup
    refine .inr (.inl ⟨p, vs, rfl, .inl (.inl (e _ _ h1)), fun hw => ?_, fun _ => g.newT e (cutV_rep lo hi h2)⟩)
    have ec : cutD ds lo hi = ds := by
      unfold cutD
      rw [h2.length] at hw
      rw [hw.1, hw.2, List.drop_zero, Nat.sub_zero, List.take_length]
    rw [ec] at g
    exact g.val e ⟨p, vs, rfl, h1, h2⟩
  · rename_i ns
    cases hf
    obtain ⟨p, rfl, h1⟩ := h.scr
    refine .inl ⟨p, _, rfl, sql_ex e h1, g.newL e ?_⟩
    have := cutV_rep (Γ := Γ) (S := S) lo hi (Reps.of_ints ns)
    unfold cutD at this ⊢
    rw [List.length_map, ← List.map_drop, ← List.map_take] at this
    exact this
  · split at hf
    · rename_i z hz
      cases hf
      refine .inr (.inr ⟨tx z, h.str, by rw [tx_len]; exact okL_le hz, ?_⟩)
      have ec : cutS (tx z) lo hi = tx (cutD z lo hi) := by
        unfold cutS cutD
        rw [tx_len, tx_cps]
        rfl
      rw [ec]
      exact g.val e rfl
    · cases hf
  · cases hf
/-- a slice's bound -/
def eoN : Ev (Option Int) := fun ρ => .ok none ρ
def eoS (m : Ev Sl) : Ev (Option Int) := Ev.bind m fun s ρ => match look ρ s with
  | some (.int i) => .ok (some i) ρ
  | _ => .bad
def pO (Q : Option Int → Hp → Prop) : Pst (Option Int) := fun _ _ b _ _ H' => Q b H'
theorem pO_later {Q : Option Int → Hp → Prop} : Later (pO Q) := fun _ _ _ _ _ _ _ _ _ h => h
def SemO (Γ : Cfg) (W : WX) (t : TO) (m : Ev (Option Int)) : Prop := ∀ F ρ σ S H Q, FI Γ F ρ σ S H → Out Γ W (pO Q) F S H σ (m ρ) → t σ H Q
theorem SemO.no : SemO Γ W tNoPart eoN := fun F ρ σ S H Q I o => o F S H I .refl
theorem SemO.part {te : TE} {m : Ev Sl} (h : Sem Γ W te m) : SemO Γ W (tPart te) (eoS m) := by
  intro F ρ σ S H Q I o
  refine h.bind pO_later I .refl o fun s1 ρ1 v1 l1 F1 S1 H1 I1 _ T1 hd1 hl1 o1 => ?_
  cases e : look ρ1 s1 with
  | none => simp only [e] at o1; exact o1.elim
  | some d =>
    cases d with
    | int i =>
      simp only [e] at o1
      have := (look_ok I1 hd1 e).int
      exact ⟨i, this, o1 F1 S1 H1 I1 T1⟩
    | _ => simp only [e] at o1; exact o1.elim
theorem SemO.bind {α : Type} {p : Pst α} {F F0 : List (List Addr)} {S0 H0 S H : Hp} {ρ : Env} {σ : L2.St} {t : TO} {m : Ev (Option Int)} {k : Option Int → Ev α} {P : Option Int → Hp → Prop} (h : SemO Γ W t m) (hp : Later p) (I : FI Γ F ρ σ S H) (T0 : Tr F0 S0 H0 F S H) (o : Out Γ W p F0 S0 H0 σ (Ev.bind m k ρ))
    (next : ∀ b ρ' F' S' H', FI Γ F' ρ' σ S' H' → Tr F S H F' S' H' → Tr F0 S0 H0 F' S' H' → Out Γ W p F0 S0 H0 σ (k b ρ') → P b H') : t σ H P := by
  refine h F ρ σ S H P I ?_
  unfold Ev.bind at o
  cases e : m ρ with
  | ok s ρ' =>
    rw [e] at o
    exact fun F' S' H' I' T => next s ρ' F' S' H' I' T (T0.trans T) o
  | exc c fs ρ' => rw [e] at o; exact Out.later (p := p) (r := .exc c fs ρ') hp o T0
  | bad => rw [e] at o; exact o
def eSl (m : Ev Sl) (lo hi : Ev (Option Int)) : Ev Sl := Ev.bind m fun s => Ev.bind lo fun a => Ev.bind hi fun b ρ => match look ρ s with
  | some d => giveAt ρ (slD d a b)
  | none => .bad
theorem Sem.sl {te : TE} {m : Ev Sl} {tl th : TO} {lo hi : Ev (Option Int)} (h : Sem Γ W te m) (h1 : SemO Γ W tl lo) (h2 : SemO Γ W th hi) : Sem Γ W (tSl (rSlX Γ.K) te tl th) (eSl m lo hi) := by
  intro F ρ σ S H Q I o
  refine h.bind pE_later I .refl o fun s1 ρ1 v1 l1 F1 S1 H1 I1 _ T1 hd1 hl1 o1 => ?_
  refine h1.bind pE_later I1 T1 o1 fun a ρ2 F2 S2 H2 I2 t2 T2 o2 => ?_
  refine h2.bind pE_later I2 T2 o2 fun b ρ3 F3 S3 H3 I3 t3 T3 o3 => ?_
  have o4 := o3.later pE_later T3
  cases e : look ρ3 s1 with
  | none => simp only [e] at o4; exact o4.elim
  | some d =>
    simp only [e] at o4
    obtain ⟨s', e3, g⟩ := o4.giveAt I3
    exact slD_run I3.sub (look_ok I3 ((hd1.go t2).go t3) e) e3 g

/-! ### isinstance -/
def tyC : D → Option Nat
  | .non => some 0
  | .bl _ => some 1
  | .int _ => some 2
  | .str _ => some 3
  | .tup _ => some 4
  | .lst _ => some 5
  | .scr _ => some 5
  | .dct _ _ => some 6
  | _ => none
def tyN : Nat → String
  | 0 => "NoneType" | 1 => "bool" | 2 => "int" | 3 => "str" | 4 => "tuple" | 5 => "list" | _ => "dict"
def isiT (c k : Nat) : Bool := c == k || (c == 1 && k == 2)
theorem kit_tab : ((List.range 7).all fun c => (List.range 7).all fun k => decide (kitB (tyN c) (tyN k) = some (isiT c k))) = true := by decide +kernel
theorem kit_at {c k : Nat} (hc : c < 7) (hk : k < 7) : kitB (tyN c) (tyN k) = some (isiT c k) := by
  have h := List.all_eq_true.mp kit_tab c (List.mem_range.mpr hc)
  exact of_decide_eq_true (List.all_eq_true.mp h k (List.mem_range.mpr hk))
theorem tyX_lk (e : Ex S H) : ∀ {d : D} {v : V} {c : Nat}, tyC d = some c → Lk Γ S H d v → c < 7 ∧ TyX Γ.K H v (.type (tyN c))
  | .non, v, c, h, r => by cases h; have := r.non; subst this; exact ⟨by decide, .base .non⟩
  | .bl b, v, c, h, r => by cases h; have := r.bl; subst this; exact ⟨by decide, .base (.bl b)⟩
  | .int b, v, c, h, r => by cases h; have := r.int; subst this; exact ⟨by decide, .base (.int b)⟩
  | .str b, v, c, h, r => by cases h; have := r.str; subst this; exact ⟨by decide, .base (.str _)⟩
  | .tup b, v, c, h, r => by cases h; obtain ⟨a, vs, rfl, h1, _⟩ := r.tup; exact ⟨by decide, .base (.tup (e _ _ h1))⟩
  | .lst b, v, c, h, r => by cases h; obtain ⟨a, vs, rfl, h1, _⟩ := r.lst; exact ⟨by decide, .base (.lst h1)⟩
  | .scr b, v, c, h, r => by
    cases h
    obtain ⟨a, rfl, h1⟩ := r.scr
    refine ⟨by decide, ?_⟩
    rcases sql_ex e h1 with (q | ⟨o, q⟩) | ⟨o, its, n, q1, q2, _⟩
    · exact .base (.lst q)
    · exact .base (.frz q)
    · exact .kList q1 q2
  | .dct ks ws, v, c, h, r => by
    cases h
    obtain ⟨a, vs, rfl, h1, _⟩ := r
    refine ⟨by decide, ?_⟩
    rcases h1 with ⟨kk, _, _, q⟩ | ⟨kk, _, _, q⟩
    · exact .base (.dK q)
    · exact .base (.dT q)
  | .un, _, _, h, _ => by cases h
  | .ins _ _, _, _, h, _ => by cases h
  | .exc _ _, _, _, h, _ => by cases h
def eIsi (ks : List Nat) (m : Ev Sl) : Ev Sl := eUn (fun d => (tyC d).map fun c => .sh (.bl (ks.any (isiT c)))) m
/-- isinstance(x, T), T a built-in -/
theorem Sem.isi {te : TE} {m : Ev Sl} {k : Nat} (hk : k < 7) (h : Sem Γ W te m) : Sem Γ W (tCB (rIsi Γ.K) (tCons te (tCons (tC (.ty (tyN k))) tNil))) (eIsi [k] m) := by
  intro F ρ σ S H Q I o
  show te σ H fun x H1 => rIsi Γ.K [x, .ty (tyN k)] H1 Q
  refine h.bind pE_later I .refl o fun s1 ρ1 v1 l1 F1 S1 H1 I1 _ T1 hd1 hl1 o1 => ?_
  have o3 := o1.later pE_later T1
  cases e : look ρ1 s1 with
  | none => simp only [e] at o3; exact o3.elim
  | some d =>
    simp only [e] at o3
    obtain ⟨s', e3, g⟩ := o3.giveAt I1
    cases q : tyC d with
    | none => rw [q] at e3; cases e3
    | some c =>
      rw [q] at e3
      cases e3
      obtain ⟨hc, ty⟩ := tyX_lk I1.sub q (look_ok I1 hd1 e)
      refine ⟨v1, _, _, _, _, rfl, .ty _, ty, kit_ty (kit_at hc hk), ?_⟩
      have g' : Give Γ S1 H1 (.sh (.bl (isiT c k))) Q := by simpa using g
      exact g'.val I1.sub rfl
theorem kitAny_tab {c : Nat} (hc : c < 7) : ∀ ks : List Nat, (∀ k ∈ ks, k < 7) → PySem.W.kitAny Γ.K (.type (tyN c)) (ks.map fun k => Value.type (tyN k)) = some (ks.any (isiT c))
  | [], _ => rfl
  | k :: ks, h => by
    have ih := kitAny_tab hc ks fun k' hk' => h k' (List.mem_cons_of_mem _ hk')
    refine kitAny_cons (kit_ty (kit_at hc (h k List.mem_cons_self))) (fun hb => ?_) fun hb => ?_
    · rw [ih, List.any_cons, hb, Bool.false_or]
    · rw [List.any_cons, hb, Bool.true_or]
theorem paired_tys : ∀ ks : List Nat, Paired ClsV (ks.map fun k => V.ty (tyN k)) (ks.map fun k => Value.type (tyN k))
  | [] => .nil
  | k :: ks => .cons (.ty _) (paired_tys ks)
/-- the classes of a written tuple -/
def tTys : List Nat → TA
  | [] => tNil
  | k :: ks => tCons (tC (.ty (tyN k))) (tTys ks)
theorem tTys_run {σ : L2.St} {H : Hp} {Q : List V → Hp → Prop} : ∀ {ks : List Nat} , Q (ks.map fun k => V.ty (tyN k)) H → tTys ks σ H Q := by
  intro ks
  induction ks generalizing Q with
  | nil => exact fun h => h
  | cons k ks ih => exact fun h => ih (Q := fun xs H2 => Q (V.ty (tyN k) :: xs) H2) h
/-- isinstance(x, (T1, T2)) -/
theorem Sem.isiT {te : TE} {m : Ev Sl} {ks : List Nat} (hks : ∀ k ∈ ks, k < 7) (hl : ks.length ≤ 100) (h : Sem Γ W te m) : Sem Γ W (tCB (rIsiT Γ.K) (tCons te (tCons (tTup (tTys ks)) tNil))) (eIsi ks m) := by
  intro F ρ σ S H Q I o
  refine h.bind pE_later I .refl o fun s1 ρ1 v1 l1 F1 S1 H1 I1 _ T1 hd1 hl1 o1 => ?_
  show tTys ks σ H1 fun xs H2 => xs.length ≤ sizeLine ∧ ∀ p, H2 p = none → rIsiT Γ.K [v1, .ref p] (upd H2 p (.tup xs)) Q
  refine tTys_run ⟨by rw [List.length_map]; exact Nat.le_trans hl (by decide), fun p hp => ?_⟩
  have I2 : FI Γ F1 ρ1 σ S1 (upd H1 p (.tup (ks.map fun k => V.ty (tyN k)))) := I1.ext (Ex.refl _) (Ex.new hp) (I1.sub.trans (Ex.new hp)) fun a h => .inl h
  have T2 : Tr F1 S1 H1 F1 S1 (upd H1 p (.tup (ks.map fun k => V.ty (tyN k)))) := Tr.ext (Ex.refl _) (Ex.new hp) fun a h => .inl h
  have o3 := o1.later pE_later (T1.trans T2)
  cases e : look ρ1 s1 with
  | none => simp only [e] at o3; exact o3.elim
  | some d =>
    simp only [e] at o3
    obtain ⟨s', e3, g⟩ := o3.giveAt I2
    cases q : tyC d with
    | none => rw [q] at e3; cases e3
    | some c =>
      rw [q] at e3
      cases e3
      obtain ⟨hc, ty⟩ := tyX_lk I2.sub q (look_ok I2 (hd1.go T2) e)
      exact ⟨v1, p, _, _, _, _, rfl, upd_same, paired_tys ks, ty, kitAny_tab hc ks hks, g.val I2.sub rfl⟩

/-! ### and, or of any values by truth -/
def truD : D → Option Bool
  | .non => some false
  | .int i => some (i != 0)
  | .str s => if okL s.length = true then some (!s.isEmpty) else none
  | .bl b => some b
  | .lst ds => some (!ds.isEmpty)
  | .tup ds => some (!ds.isEmpty)
  | _ => none
end
end PM

set_option Elab.async false
set_option linter.all false
set_option maxRecDepth 100000
set_option maxHeartbeats 4000000
/-! PM, part i: truth, methods, stores, what is walked, raise. -/
namespace PM
open PySem PySem.Spec PyProof.Rows L2

section
variable {Γ : Cfg} {W : WX} {A : Nat → Bool} {F F' F0 : List (List Addr)} {S S' S0 H H' H0 : Hp} {ρ ρ' : Env} {σ : L2.St} {x y v : V} {d e : D} {Q : VK}
theorem truD_ok (ex : Ex S H) : ∀ {d : D} {v : V} {k : Bool}, truD d = some k → Lk Γ S H d v → TruV Γ.K v H k
  | .non, v, k, h, r => by cases h; have := r.non; subst this; exact rfl
  | .bl b, v, k, h, r => by cases h; have := r.bl; subst this; exact rfl
  | .int b, v, k, h, r => by cases h; have := r.int; subst this; exact rfl
  | .str s, v, k, h, r => by
    simp only [truD] at h
    split at h
    · rename_i hz
      cases h
      have := r.str
      subst this
      refine ⟨by rw [tx_len]; exact okL_le hz, ?_⟩
      rw [tx_len]
      cases s with
      | nil => rfl
      | cons a s =>
        have h1 : (((a :: s).length : Nat) : Int) ≠ 0 := by simp only [List.length_cons]; omega
        rw [bne_iff_ne.mpr h1]
        rfl
    · cases h
  | .lst ds, v, k, h, r => by
    cases h
    obtain ⟨a, vs, rfl, h1, h2⟩ := r.lst
    refine .inl ⟨vs, .inl (.inl h1), ?_⟩
    have := h2.length
    cases ds <;> cases vs <;> first | rfl | (simp at this; done)
  | .tup ds, v, k, h, r => by
    cases h
    obtain ⟨a, vs, rfl, h1, h2⟩ := r.tup
    refine .inr (.inl ⟨vs, .inl (.inl (ex _ _ h1)), ?_⟩)
    have := h2.length
    cases ds <;> cases vs <;> first | rfl | (simp at this; done)
def eOrT (m1 m2 : Ev Sl) : Ev Sl := Ev.bind m1 fun s ρ => match (look ρ s).bind truD with
  | some true => .ok s ρ
  | some false => m2 ρ
  | none => .bad
theorem tru_at {s : Sl} {l : List Addr} {k : Bool} (I : FI Γ F ρ σ S H) (h : HdOk Γ F σ S H s v l) (e : (look ρ s).bind truD = some k) : TruV Γ.K v H k := by
  cases q : look ρ s with
  | none => rw [q] at e; cases e
  | some d => rw [q] at e; exact truD_ok I.sub e (look_ok I h q)
theorem Sem.orT {ta tb : TE} {m1 m2 : Ev Sl} (h1 : Sem Γ W ta m1) (h2 : Sem Γ W tb m2) : Sem Γ W (tOrT Γ.K ta tb) (eOrT m1 m2) := by
  intro F ρ σ S H Q I o
  refine h1.bind pE_later I .refl o fun s ρ1 v l F1 S1 H1 I1 _ T1 hd hl o1 => ?_
  cases e : (look ρ1 s).bind truD with
  | none => simp only [e] at o1; exact o1.elim
  | some k =>
    refine ⟨k, tru_at I1 hd e, ?_⟩
    cases k with
    | true =>
      simp only [e] at o1
      show Q v H1
      exact o1 F1 S1 H1 I1 T1 v l hl hd
    | false =>
      simp only [e] at o1
      show tb σ H1 Q
      exact h2 _ _ _ _ _ _ I1 (o1.later pE_later T1)
/-- a test by truth -/
def eTru (m : Ev Sl) : Ev Bool := Ev.bind m fun s ρ => match (look ρ s).bind truD with
  | some k => .ok k ρ
  | none => .bad
theorem Sem.tru {te : TE} {m : Ev Sl} (h : Sem Γ W te m) : SemT Γ W (fun σ H Q => te σ H fun x H1 => ∃ k, TruV Γ.K x H1 k ∧ Q k H1) (eTru m) := by
  intro F ρ σ S H Q I o
  refine h.bind pT_later I .refl o fun s ρ1 v l F1 S1 H1 I1 _ T1 hd hl o1 => ?_
  cases e : (look ρ1 s).bind truD with
  | none => simp only [e] at o1; exact o1.elim
  | some k =>
    simp only [e] at o1
    exact ⟨k, tru_at I1 hd e, o1 F1 S1 H1 I1 T1⟩

/-! ### a < b < c -/
def eChain (f g : D → D → Option Sl) (m1 m2 m3 : Ev Sl) : Ev Bool := Ev.bind m1 fun a => Ev.bind m2 fun b ρ => match look ρ a, look ρ b with
  | some x, some y => (match f x y with
    | some (.sh (.bl true)) => Ev.bind m3 (fun c ρ => match look ρ b, look ρ c with
      | some y, some z => (match g y z with
        | some (.sh (.bl k)) => .ok k ρ
        | _ => .bad)
      | _, _ => .bad) ρ
    | some (.sh (.bl false)) => .ok false ρ
    | _ => .bad)
  | _, _ => .bad

/-! ### stores into objects of one's own -/
theorem FI.write {i : Nat} {p : Addr} {ob : HO} {d d' : D} (I : FI Γ F ρ σ S H) (hF : F[i]? = some [p]) (hd : ρ[i]? = some (.ow d)) (hσ : σ[i]? = some (some v)) (n : OwR Γ S (upd H p ob) d' v [p]) : FI Γ F (ρ.set i (.ow d')) σ S (upd H p ob) := by
  have hp : p ∈ F.flatten := flatten_mem hF (by simp)
  have hS : S p = none := I.off p hp
  have I0 := I.setNoSame i
  have out : ∀ a ∈ (F.set i []).flatten, a ≠ p := fun a ha z => set_nil_not I.nd hF (List.mem_singleton.mpr rfl) (z ▸ ha)
  have A0 := I0.all.go (S' := S) (H' := upd H p ob) (Ex.refl _) fun a ha o e => by rw [upd_ne (out a ha)]; exact e
  have A1 := A0.set i (s := .ow d') (x := some v) (l := [p]) ⟨v, rfl, n⟩
  rw [set_get_self hσ, List.set_set, List.set_set, set_get_self hF] at A1
  refine ⟨fun a o e => ?_, A1, I.nd, I.off⟩
  rw [upd_ne (fun z => by rw [z, hS] at e; cases e)]
  exact I.sub a o e
theorem Tr.write {p : Addr} {ob : HO} (hp : p ∈ F.flatten) : Tr F S H F S (upd H p ob) :=
  ⟨Ex.refl _, fun a o e hn => by rw [upd_ne (fun z => hn (by rw [z]; exact hp))]; exact e, fun a h => .inl h, fun a h => .inl h⟩
theorem own_lst {i : Nat} {ds : List D} (I : FI Γ F ρ σ S H) (h : ρ[i]? = some (.ow (.lst ds))) : ∃ p vs, σ[i]? = some (some (.ref p)) ∧ F[i]? = some [p] ∧ H p = some (.lst vs) ∧ Reps Γ S ds vs := by
  obtain ⟨x, l, h1, h2, v, rfl, p, vs, rfl, rfl, h3, h4⟩ := I.all.get h
  exact ⟨p, vs, h1, h2, h3, h4⟩
def ownL (ρ : Env) (i : Nat) : Option (List D) := match ρ[i]? with
  | some (.ow (.lst ds)) => some ds
  | _ => none
theorem ownL_eq {i : Nat} {ds : List D} (h : ownL ρ i = some ds) : ρ[i]? = some (.ow (.lst ds)) := by
  unfold ownL at h
  split at h
  · rename_i e; cases h; exact e
  · cases h
/-- xs[k] = e, xs a name -/
def sSetL (i : Nat) (m mk : Ev Sl) : Sv := andS (eFr m) fun s ρ => match s, ownL ρ i with
  | .sh d, some _ => andS mk (fun k ρ => match ownL ρ i, look ρ k with
    | some ds, some (.int j) => (match ixN ds.length j with
      | some p => .nx (ρ.set i (.ow (.lst (ds.set p d))))
      | none => .bad)
    | _, _ => .bad) ρ
  | _, _ => .bad
theorem OutS.down {D : Ends} {r : Fl} (T : Tr F0 S0 H0 F S H) (o : OutS Γ W A F0 S0 H0 σ D r) : OutS Γ W A F S H σ D r := o.later T .refl
theorem Sem.setL {i : Nat} {te ti : TE} {m mk : Ev Sl} (h1 : Sem Γ W te m) (h2 : Sem Γ W ti mk) : SemS Γ W A (tAsg te (gSub (tVar i) ti rSetL)) (sSetL i m mk) := by
  intro F ρ σ S H D I o
  refine (Sem.fr h1).thenS I o fun s ρ1 v l F1 S1 H1 I1 T1 hd hl o1 => ?_
  split at o1
  · rename_i d ds0 e0
    obtain ⟨q, vs0, hw, _⟩ := own_lst I1 (ownL_eq e0)
    refine ⟨.ref q, hw, h2.thenS I1 (o1.down T1) fun k ρ2 u l2 F2 S2 H2 I2 T2 hd2 hl2 o2 => ?_⟩
    have o3 := o2.down T2
    split at o3
    · rename_i ds j e2 e3
      split at o3
      · rename_i p ep
        obtain ⟨q', vs, q1, q2, q3, q4⟩ := own_lst I2 (ownL_eq e2)
        rw [hw] at q1
        cases q1
        have ej := (look_ok I2 hd2 e3).int
        have r : Rep Γ S2 d v := Rep.ex T2.st _ _ hd.r.2
        refine ⟨q, vs, j, p, rfl, ej, q3, by rw [q4.length]; exact ep, ?_⟩
        exact o3 σ F2 S2 _ (I2.write q2 (ownL_eq e2) hw ⟨q, _, rfl, rfl, upd_same, q4.set p r⟩) (Tr.write (flatten_mem q2 (by simp))) .refl
      · exact o3.elim
    · exact o3.elim
  · exact o1.elim
/-- xs.append(e), xs a name -/
def sApp (i : Nat) (m : Ev Sl) : Sv := fun ρ => match ownL ρ i with
  | some _ => andS (eFr m) (fun s ρ => match s, ownL ρ i with
    | .sh d, some ds => if okL ds.length = true then .nx (ρ.set i (.ow (.lst (ds ++ [d])))) else .bad
    | _, _ => .bad) ρ
  | none => .bad
theorem Sem.app {i : Nat} {te : TE} {m : Ev Sl} (h : Sem Γ W te m) : SemS Γ W A (tDrop (tBM Γ.K "list" rAppend (tVar i) (tCons te tNil))) (sApp i m) := by
  intro F ρ σ S H D I o
  unfold sApp at o
  split at o
  · rename_i ds0 e0
    obtain ⟨q, vs0, hw, _, h0, _⟩ := own_lst I (ownL_eq e0)
    refine ⟨.ref q, hw, .inl ⟨rfl, vs0, .inl (.inl h0)⟩, ?_⟩
    show te σ H fun y H1 => rAppend (.ref q) [y] H1 fun _ H2 => D.nx σ H2
    refine (Sem.fr h).thenS I o fun s ρ1 v l F1 S1 H1 I1 T1 hd hl o1 => ?_
    have o3 := o1.down T1
    split at o3
    · rename_i d ds e1
      split at o3
      · rename_i hz
        obtain ⟨q', vs, q1, q2, q3, q4⟩ := own_lst I1 (ownL_eq e1)
        rw [hw] at q1
        cases q1
        refine ⟨q, vs, v, rfl, rfl, q3, by rw [q4.length]; exact okL_lt hz, ?_⟩
        exact o3 σ F1 S1 _ (I1.write q2 (ownL_eq e1) hw ⟨q, _, rfl, rfl, upd_same, q4.append (.cons hd.r.2 rfl)⟩) (Tr.write (flatten_mem q2 (by simp))) .refl
      · exact o3.elim
    · exact o3.elim
  · exact o.elim
/-- xs.pop(k), xs a name -/
def ePopAt (i : Nat) (m : Ev Sl) : Ev Sl := fun ρ => match ownL ρ i with
  | some _ => Ev.bind m (fun s ρ => match look ρ s, ownL ρ i with
    | some (.int k), some ds => (match (if okL ds.length = true then ixN ds.length k else none) with
      | some p => (match ds[p]? with
        | some d => .ok (.sh d) (ρ.set i (.ow (.lst (ds.eraseIdx p))))
        | none => .bad)
      | none => .bad)
    | _, _ => .bad) ρ
  | none => .bad
theorem Sem.popAt {i : Nat} {te : TE} {m : Ev Sl} (h : Sem Γ W te m) : Sem Γ W (tBM Γ.K "list" rPopAt (tVar i) (tCons te tNil)) (ePopAt i m) := by
  intro F ρ σ S H Q I o
  unfold ePopAt at o
  split at o
  · rename_i ds0 e0
    obtain ⟨q, vs0, hw, _, h0, _⟩ := own_lst I (ownL_eq e0)
    refine ⟨.ref q, hw, .inl ⟨rfl, vs0, .inl (.inl h0)⟩, ?_⟩
    show te σ H fun y H1 => rPopAt (.ref q) [y] H1 Q
    refine h.bind pE_later I .refl o fun s ρ1 v l F1 S1 H1 I1 _ T1 hd hl o1 => ?_
    have o3 := o1.later pE_later T1
    split at o3
    · rename_i k ds e1 e2
      split at o3
      · rename_i p ep
        split at ep
        · rename_i hz
          split at o3
          · rename_i d ed
            obtain ⟨q', vs, q1, q2, q3, q4⟩ := own_lst I1 (ownL_eq e2)
            rw [hw] at q1
            cases q1
            have ek := (look_ok I1 hd e1).int
            obtain ⟨w, hw1, hw2⟩ := q4.get ed
            obtain ⟨s1, s2, s3, s4⟩ := ixN_seq ep
            have hle : ds.length ≤ 100000 := Nat.le_of_ble_eq_true hz
            refine ⟨q, vs, k, p, w, rfl, by rw [ek], q3, by omega, by omega, by rw [q4.length]; exact s1, hw1, ?_⟩
            exact o3 F1 S1 _ (I1.write q2 (ownL_eq e2) hw ⟨q, _, rfl, rfl, upd_same, q4.erase p⟩) (Tr.write (flatten_mem q2 (by simp))) w [] (by simp) (.sh hw2)
          · exact o3.elim
        · cases ep
      · exact o3.elim
    · exact o3.elim
  · exact o.elim

/-! ### a, b = e1, e2 -/
def settles (ρ : Env) : List Sl → Option (List Sl × Env)
  | [] => some ([], ρ)
  | s :: r => match settle ρ s with
    | some (s', ρ') => (settles ρ' r).map fun q => (s' :: q.1, q.2)
    | none => none
def sPar (is : List Nat) (ms : Ev (List Sl)) : Sv := andS ms fun ss ρ => match settles ρ ss with
  | some (ss', ρ') => if ss'.length = is.length then .nx ((is.zip ss').foldl (fun ρ p => ρ.set p.1 p.2) ρ') else .bad
  | none => .bad
theorem HdOk.sub {F1 : List (List Addr)} {s : Sl} {l : List Addr} (h : HdOk Γ F σ S H s v l) (m : ∀ a ∈ F1.flatten, a ∈ F.flatten) : HdOk Γ F1 σ S H s v l := ⟨h.r, h.nd, fun a ha => ⟨fun z => (h.off a ha).1 (m a z), (h.off a ha).2⟩⟩
/-- values in flight over the freezing of others -/
theorem HdsOk.go : ∀ {ss : List Sl} {vs : List V} {ls : List (List Addr)}, HdsOk Γ F σ S H ss vs ls → Tr F S H F' S' H' → HdsOk Γ F' σ S' H' ss vs ls
  | [], [], [], _, _ => .nil
  | s :: ss, v :: vs, l :: ls, h, t => by
    have h1 := h.head.go t
    have h2 := HdsOk.go h.tail t
    refine ⟨⟨h1.r, h2.r⟩, h.nd, fun a ha => ?_⟩
    rw [List.flatten_cons] at ha
    rcases List.mem_append.mp ha with z | z
    · exact h1.off a z
    · exact h2.off a z
  | [], [], _ :: _, h, _ => h.r.elim
  | [], _ :: _, _, h, _ => h.r.elim
  | _ :: _, [], _, h, _ => h.r.elim
  | _ :: _, _ :: _, [], h, _ => h.r.elim
theorem settle_im {s s' : Sl} {l : List Addr} (I : FI Γ F ρ σ S H) (h : HdOk Γ F σ S H s v l) (e : settle ρ s = some (s', ρ')) : ∃ F' S', FI Γ F' ρ' σ S' H ∧ Tr F S H F' S' H ∧ HdOk Γ F' σ S' H s' v l ∧ ∀ j, s' ≠ .br j := by
  cases s with
  | no => cases e
  | sh d => cases e; exact ⟨F, S, I, .refl, h, fun j q => nomatch q⟩
  | ow d => cases e; exact ⟨F, S, I, .refl, h, fun j q => nomatch q⟩
  | br i =>
    dsimp only [settle] at e
    have hl0 : l = [] := h.r.1
    subst hl0
    cases q : PM.frz ρ (.br i) with
    | none => rw [q] at e; cases e
    | some z =>
      obtain ⟨d, ρ2⟩ := z
      rw [q] at e
      cases e
      obtain ⟨F', S', I', T', r⟩ := frz_ok (F0 := F) (S0 := S) (H0 := H) .refl (by simp) I h q
      exact ⟨F', S', I', T', .sh r, fun j q => nomatch q⟩
theorem settles_ok : ∀ {ss ss' : List Sl} {vs : List V} {ls : List (List Addr)} {ρ ρ' : Env} {F : List (List Addr)} {S : Hp}, FI Γ F ρ σ S H → HdsOk Γ F σ S H ss vs ls → settles ρ ss = some (ss', ρ') →
    ∃ F' S', FI Γ F' ρ' σ S' H ∧ Tr F S H F' S' H ∧ HdsOk Γ F' σ S' H ss' vs ls ∧ ∀ s ∈ ss', ∀ j, s ≠ .br j
  | [], _, [], [], ρ, ρ', F, S, I, h, e => by cases e; exact ⟨F, S, I, .refl, .nil, by simp⟩
  | s :: ss, _, v :: vs, l :: ls, ρ, ρ', F, S, I, h, e => by
    unfold settles at e
    cases e1 : settle ρ s with
    | none => rw [e1] at e; cases e
    | some q =>
      obtain ⟨s1, ρ1⟩ := q
      simp only [e1] at e
      cases e2 : settles ρ1 ss with
      | none => rw [e2] at e; cases e
      | some q =>
        obtain ⟨ss2, ρ2⟩ := q
        rw [e2] at e
        cases e
        obtain ⟨F1, S1, I1, T1, h1, n1⟩ := settle_im I h.head e1
        obtain ⟨F2, S2, I2, T2, h2, n2⟩ := settles_ok I1 (h.tail.go T1) e2
        have h1' := h1.go T2
        refine ⟨F2, S2, I2, T1.trans T2, ⟨⟨h1'.r, h2.r⟩, h.nd, fun a ha => ?_⟩, fun s' hs => ?_⟩
        · rw [List.flatten_cons] at ha
          rcases List.mem_append.mp ha with z | z
          · exact h1'.off a z
          · exact h2.off a z
        · rcases List.mem_cons.mp hs with z | z
          · rw [z]; exact n1
          · exact n2 s' z
  | [], _, [], _ :: _, _, _, _, _, _, h, _ => h.r.elim
  | [], _, _ :: _, _, _, _, _, _, _, h, _ => h.r.elim
  | _ :: _, _, [], _, _, _, _, _, _, h, _ => h.r.elim
  | _ :: _, _, _ :: _, [], _, _, _, _, _, h, _ => h.r.elim
/-- one goes into its slot, the others are still in flight -/
theorem FI.setHead {i : Nat} {s : Sl} {l : List Addr} {ss : List Sl} {vs : List V} {ls : List (List Addr)} (I : FI Γ F ρ σ S H) (h : HdsOk Γ F σ S H (s :: ss) (v :: vs) (l :: ls)) (nb : ∀ s' ∈ s :: ss, ∀ j, s' ≠ .br j) :
    FI Γ (F.set i l) (ρ.set i s) (σ.set i (some v)) S H ∧ HdsOk Γ (F.set i l) (σ.set i (some v)) S H ss vs ls ∧ ∀ a ∈ (F.set i l).flatten, a ∈ l ∨ a ∈ F.flatten := by
  refine ⟨I.set h.head (nb s List.mem_cons_self), ⟨?_, h.tail.nd, fun a ha => ⟨fun z => ?_, (h.tail.off a ha).2⟩⟩, fun a ha => mem_set ha⟩
  · have key : ∀ {ss : List Sl} {vs : List V} {ls : List (List Addr)}, HdRs Γ σ S H ss vs ls → (∀ s' ∈ ss, ∀ j, s' ≠ .br j) → HdRs Γ (σ.set i (some v)) S H ss vs ls := by
      intro ss
      induction ss with
      | nil => intro vs ls h _; cases vs <;> cases ls <;> first | exact True.intro | exact h.elim
      | cons s ss ih =>
        intro vs ls h nb
        cases vs with
        | nil => cases ls <;> exact h.elim
        | cons v vs =>
          cases ls with
          | nil => exact h.elim
          | cons l ls =>
            refine ⟨?_, ih h.2 fun s' hs => nb s' (List.mem_cons_of_mem _ hs)⟩
            have r := h.1
            cases s with
            | no => exact r
            | sh d => exact r
            | ow d => exact r
            | br j => exact absurd rfl (nb _ List.mem_cons_self j)
    exact key h.tail.r fun s' hs => nb s' (List.mem_cons_of_mem _ hs)
  · rcases mem_set (F := F) (i := i) z with q | q
    · have nd := h.nd
      rw [List.flatten_cons] at nd
      exact (List.nodup_append.mp nd).2.2 a q a ha rfl
    · exact (h.tail.off a ha).1 q
theorem SemA.thenS {D : Ends} {ta : TA} {ms : Ev (List Sl)} {k : List Sl → Sv} {P : List V → Hp → Prop} (h : SemA Γ W ta ms) (I : FI Γ F ρ σ S H) (o : OutS Γ W A F S H σ D (andS ms k ρ))
    (next : ∀ s ρ' v l F' S' H', FI Γ F' ρ' σ S' H' → Tr F S H F' S' H' → HdsOk Γ F' σ S' H' s v l → (∀ a ∈ l.flatten, a ∈ F.flatten ∨ H a = none) → OutS Γ W A F S H σ D (k s ρ') → P v H') : ta σ H P := by
  refine h F ρ σ S H P I ?_
  unfold andS at o
  cases e : ms ρ with
  | ok s ρ' =>
    simp only [e] at o
    exact fun F' S' H' I' T v l hl hd => next s ρ' v l F' S' H' I' T hd hl o
  | exc c fs ρ' => simp only [e] at o; exact o.exc_of
  | bad => simp only [e] at o; exact o
theorem hdRs_nil {vs : List V} {ls : List (List Addr)} (h : HdRs Γ σ S H [] vs ls) : vs = [] ∧ ls = [] := by
  cases vs <;> cases ls <;> first | exact ⟨rfl, rfl⟩ | exact h.elim
theorem hdRs_cons {s : Sl} {ss : List Sl} {vs : List V} {ls : List (List Addr)} (h : HdRs Γ σ S H (s :: ss) vs ls) : ∃ v r l k, vs = v :: r ∧ ls = l :: k ∧ HdRs Γ σ S H ss r k := by
  cases vs with
  | nil => cases ls <;> exact h.elim
  | cons v vs =>
    cases ls with
    | nil => exact h.elim
    | cons l ls => exact ⟨v, vs, l, ls, rfl, rfl, h.2⟩
theorem Sem.par2 {i j : Nat} {ta : TA} {ms : Ev (List Sl)} (hi : A i = true) (hj : A j = true) (h : SemA Γ W ta ms) : SemS Γ W A (tPar i j ta) (sPar [i, j] ms) := by
  intro F ρ σ S H D I o
  refine h.thenS I o fun ss ρ1 vs ls F1 S1 H1 I1 T1 hd hl o1 => ?_
  cases e : settles ρ1 ss with
  | none => simp only [e] at o1; exact o1.elim
  | some q =>
    obtain ⟨ss', ρ2⟩ := q
    simp only [e] at o1
    split at o1
    · rename_i hn
      obtain ⟨F2, S2, I2, T2, h2, n2⟩ := settles_ok I1 hd e
      match ss', hn, h2, n2, o1 with
      | [s1, s2], _, h2, n2, o1 =>
        obtain ⟨v1, r1, l1, k1, rfl, rfl, q1⟩ := hdRs_cons h2.r
        obtain ⟨v2, r2, l2, k2, rfl, rfl, q2⟩ := hdRs_cons q1
        obtain ⟨rfl, rfl⟩ := hdRs_nil q2
        obtain ⟨I3, h3, m3⟩ := I2.setHead (i := i) h2 n2
        obtain ⟨I4, h4, m4⟩ := I3.setHead (i := j) h3 fun s' hs => n2 s' (List.mem_cons_of_mem _ hs)
        refine ⟨v1, v2, rfl, o1 _ _ S2 H1 I4 ((T1.trans T2).sub fun a ha => ?_) ((Agree.set hi).trans (.set hj))⟩
        rcases m4 a ha with z | z
        · exact hl a (by simp [z])
        · rcases m3 a z with z | z
          · exact hl a (by simp [z])
          · exact (T1.trans T2).fsub a z
    · exact o1.elim
theorem Sem.par3 {i j k : Nat} {ta : TA} {ms : Ev (List Sl)} (hi : A i = true) (hj : A j = true) (hk : A k = true) (h : SemA Γ W ta ms) : SemS Γ W A (tPar3 i j k ta) (sPar [i, j, k] ms) := by
  intro F ρ σ S H D I o
  refine h.thenS I o fun ss ρ1 vs ls F1 S1 H1 I1 T1 hd hl o1 => ?_
  cases e : settles ρ1 ss with
  | none => simp only [e] at o1; exact o1.elim
  | some q =>
    obtain ⟨ss', ρ2⟩ := q
    simp only [e] at o1
    split at o1
    · rename_i hn
      obtain ⟨F2, S2, I2, T2, h2, n2⟩ := settles_ok I1 hd e
      match ss', hn, h2, n2, o1 with
      | [s1, s2, s3], _, h2, n2, o1 =>
        obtain ⟨v1, r1, l1, k1, rfl, rfl, q1⟩ := hdRs_cons h2.r
        obtain ⟨v2, r2, l2, k2, rfl, rfl, q2⟩ := hdRs_cons q1
        obtain ⟨v3, r3, l3, k3, rfl, rfl, q3⟩ := hdRs_cons q2
        obtain ⟨rfl, rfl⟩ := hdRs_nil q3
        obtain ⟨I3, h3, m3⟩ := I2.setHead (i := i) h2 n2
        obtain ⟨I4, h4, m4⟩ := I3.setHead (i := j) h3 fun s' hs => n2 s' (List.mem_cons_of_mem _ hs)
        obtain ⟨I5, h5, m5⟩ := I4.setHead (i := k) h4 fun s' hs => n2 s' (List.mem_cons_of_mem _ (List.mem_cons_of_mem _ hs))
        refine ⟨v1, v2, v3, rfl, o1 _ _ S2 H1 I5 ((T1.trans T2).sub fun a ha => ?_) (((Agree.set hi).trans (.set hj)).trans (.set hk))⟩
        rcases m5 a ha with z | z
        · exact hl a (by simp [z])
        · rcases m4 a z with z | z
          · exact hl a (by simp [z])
          · rcases m3 a z with z | z
            · exact hl a (by simp [z])
            · exact (T1.trans T2).fsub a z
    · exact o1.elim

/-! ### what is walked -/
def itemsD : D → Option (List D)
  | .lst ds => some ds
  | .tup ds => some ds
  | .str s => some (s.map fun c => .str [c])
  | .scr ns => some (ns.map D.int)
  | _ => none
def eIt (f : D → Option (List D)) (m : Ev Sl) : Ev (List D) := Ev.bind (eFr m) fun s ρ => match s with
  | .sh d => (match f d with
    | some ds => .ok ds ρ
    | none => .bad)
  | _ => .bad
theorem SemI.of {te : TE} {m : Ev Sl} {f : D → Option (List D)} {k : V → Hp → (It → Hp → Prop) → Prop} (h : Sem Γ W te m) (hk : ∀ S H d v ds R, Ex S H → Rep Γ S d v → f d = some ds → (∀ J, WalkD Γ S J ds → R J H) → k v H R) :
    SemI Γ W (fun σ H R => te σ H fun x H1 => k x H1 R) (eIt f m) := by
  intro F ρ σ S H R I o
  refine (Sem.fr h).bind pI_later I .refl o fun s ρ1 v l F1 S1 H1 I1 _ T1 hd hl o1 => ?_
  cases s with
  | sh d =>
    cases e : f d with
    | none => simp only [e] at o1; exact o1.elim
    | some ds =>
      simp only [e] at o1
      exact hk S1 H1 d v ds R I1.sub hd.r.2 e fun J w => o1 F1 S1 H1 I1 T1 J w
  | no => exact o1.elim
  | ow d => exact o1.elim
  | br j => exact o1.elim
theorem walkD_plain {J : It} {ds : List D} {vs : List V} (hr : Reps Γ S ds vs) (go : ∀ i x H, vs[i]? = some x → Ex S H → J.go i H) (stop : ∀ H, Ex S H → J.stop ds.length H)
    (yld : ∀ i H x H', Ex S H → i < vs.length → J.yld i H x H' → H' = H ∧ vs[i]? = some x) : WalkD Γ S J ds where
  go := fun i H hi e => by
    have : i < vs.length := by rw [hr.length]; exact hi
    exact go i vs[i] H (List.getElem?_eq_getElem this) e
  stop := stop
  yld := fun i S1 H1 x H2 d e1 e2 hd hy => by
    obtain ⟨hlt, _⟩ := List.getElem?_eq_some_iff.mp hd
    obtain ⟨rfl, hx⟩ := yld i H1 x H2 (e1.trans e2) (by rw [hr.length]; exact hlt) hy
    obtain ⟨w, hw, r⟩ := hr.get hd
    rw [hx] at hw
    cases hw
    exact ⟨S1, Ex.refl _, Ex.refl _, e2, fun _ h => .inl h, Rep.ex e1 _ _ r⟩
theorem walk_lst {K : PySem.W.Frag} {a : Addr} {ds : List D} {vs : List V} (h : SqL K S a vs) (hr : Reps Γ S ds vs) : WalkD Γ S (Itl K a) ds :=
  walkD_plain hr (fun i x H hx e => ⟨vs, x, sql_ex e h, hx⟩) (fun H e => ⟨vs, sql_ex e h, by rw [hr.length]; exact Nat.le_refl _⟩) fun i H x H' e _ hy => ⟨hy.1, hy.2 vs (sql_ex e h)⟩
theorem sqt_ex {K : PySem.W.Frag} {a : Addr} {vs : List V} (e : Ex S H) (h : SqT K S a vs) : SqT K H a vs := by
  rcases h with (h | ⟨o, h⟩) | h
  · exact .inl (.inl (e _ _ h))
  · exact .inl (.inr ⟨o, e _ _ h⟩)
  · exact .inr h
theorem walk_tp {K : PySem.W.Frag} {a : Addr} {ds : List D} {vs : List V} (h : SqT K S a vs) (hr : Reps Γ S ds vs) : WalkD Γ S (Itt K a) ds :=
  walkD_plain hr (fun i x H hx e => ⟨vs, x, sqt_ex e h, hx⟩) (fun H e => ⟨vs, sqt_ex e h, by rw [hr.length]; exact Nat.le_refl _⟩) fun i H x H' e _ hy => ⟨hy.1, hy.2 vs (sqt_ex e h)⟩
theorem walk_st {s : List Nat} : WalkD Γ S (Its (tx s)) (s.map fun c => .str [c]) where
  go := fun i H hi _ => by
    show i < (tx s).cps.size
    have : i < s.length := by simpa using hi
    simpa [tx] using this
  stop := fun H _ => by
    show (tx s).cps.size ≤ _
    simp [tx]
  yld := fun i S1 H1 x H2 d e1 e2 hd hy => by
    obtain ⟨rfl, c, hc, rfl⟩ := hy
    rw [List.getElem?_map] at hd
    have hc' : s[i]? = some c := by simpa [tx] using hc
    rw [hc'] at hd
    cases hd
    exact ⟨S1, Ex.refl _, Ex.refl _, e2, fun _ h => .inl h, rfl⟩
/-- a list, a tuple, a text: which of them is told by the value -/
def kSeq (K : PySem.W.Frag) : V → Hp → (It → Hp → Prop) → Prop := fun x H R => (∃ a, x = .ref a ∧ (∃ xs, SqL K H a xs) ∧ R (Itl K a) H) ∨ ((∃ a, x = .ref a ∧ (∃ xs, SqT K H a xs) ∧ R (Itt K a) H) ∨ ∃ z, x = .str z ∧ R (Its z) H)
def iSeq (K : PySem.W.Frag) (te : TE) : TI := fun σ H R => te σ H fun x H1 => kSeq K x H1 R
theorem SemI.seq {te : TE} {m : Ev Sl} (h : Sem Γ W te m) : SemI Γ W (iSeq Γ.K te) (eIt itemsD m) := by
  refine SemI.of (k := kSeq Γ.K) h fun S H d v ds R e r hf g => ?_
  unfold itemsD at hf
  split at hf
  · cases hf
    obtain ⟨a, vs, rfl, h1, h2⟩ := r
    exact .inl ⟨a, rfl, ⟨vs, .inl (.inl (e _ _ h1))⟩, g _ (walk_lst (.inl (.inl h1)) h2)⟩
  · cases hf
    obtain ⟨a, vs, rfl, h1, h2⟩ := r
    exact .inr (.inl ⟨a, rfl, ⟨vs, .inl (.inl (e _ _ h1))⟩, g _ (walk_tp (.inl (.inl h1)) h2)⟩)
  · cases hf
    have q : v = .str (tx _) := r
    subst q
    exact .inr (.inr ⟨_, rfl, g _ walk_st⟩)
  · cases hf
    obtain ⟨a, rfl, h1⟩ := r
    exact .inl ⟨a, rfl, ⟨_, sql_ex e h1⟩, g _ (walk_lst h1 (Reps.of_ints _))⟩
  · cases hf
theorem pi_seq {X : Cx} {tg l : Expr} {tl : TE} (hl : PE X l tl) : PI X tg l (iSeq X.K tl) := by
  refine ⟨fun pins s σ H R I h => ?_⟩
  refine thn (hl.run pins s σ H _ I h) fun v s1 ⟨x, H1, I1, r1, q1⟩ => ?_
  rcases q1 with ⟨a, rfl, ⟨xs, hq⟩, q⟩ | ⟨a, rfl, ⟨xs, hq⟩, q⟩ | ⟨x, rfl, q⟩
  · cases r1
    obtain ⟨its, rv, p, hz⟩ := I1.list hq
    refine wpAny_pyIter_list p.isList ?_
    refine ⟨s1.heap.objs.size, [s1.heap.objs.size], _, _, H1, rfl, I1.kept (t' := s1.toks) fun b o e => Heap.get?_push_of_some _ e, turn_list a _, ⟨_, Heap.get?_push_size _ rfl, rfl, rfl⟩, fun b hb => ?_, q⟩
    have e : b = s1.heap.objs.size := by simpa using hb
    subst e
    exact I1.fpOk (Nat.le_refl _) (I1.hok.fresh (Nat.le_refl _))
  · cases r1
    obtain ⟨its, rv, p, hz⟩ := I1.tuple hq
    refine wpAny_pyIter_tuple (show s1.heap.IsTuple a its.toArray from p) ?_
    refine ⟨s1.heap.objs.size, [s1.heap.objs.size], _, _, H1, rfl, I1.kept (t' := s1.toks) fun b o e => Heap.get?_push_of_some _ e, turn_tuple a _, ⟨_, Heap.get?_push_size _ rfl, rfl, rfl⟩, fun b hb => ?_, q⟩
    have e : b = s1.heap.objs.size := by simpa using hb
    subst e
    exact I1.fpOk (Nat.le_refl _) (I1.hok.fresh (Nat.le_refl _))
  · obtain ⟨t, rfl⟩ := r1
    cases ha : x.cps.all (· < 128)
    · exact wpAny_pyIter_wide ha (pi_one (tk := s1.toks) I1 _ (turn_str _ x t "str_iterator" (.inr rfl)) ⟨_, Heap.get?_push_size _ rfl, rfl, rfl⟩ q)
    · exact wpAny_pyIter_ascii ha (pi_one (tk := s1.toks) I1 _ (turn_str _ x t "str_ascii_iterator" (.inl rfl)) ⟨_, Heap.get?_push_size _ rfl, rfl, rfl⟩ q)
/-! ### range(n) -/
def rngD (lo : Int) (n : Nat) : List D := (List.range n).map fun i : Nat => D.int (lo + (i : Int))
def rng1 : D → Option (List D)
  | .int n => if decide (-100000 ≤ n) && decide (n ≤ 100000) then some (rngD 0 n.toNat) else none
  | _ => none
theorem walk_rng {lo : Int} {n : Nat} : WalkD Γ S (Itr lo n) (rngD lo n) where
  go := fun i H hi _ => by
    show i < n
    simpa [rngD] using hi
  stop := fun H _ => by
    show n ≤ _
    simp [rngD]
  yld := fun i S1 H1 x H2 d e1 e2 hd hy => by
    obtain ⟨rfl, rfl⟩ := hy
    unfold rngD at hd
    rw [List.getElem?_map] at hd
    obtain ⟨hlt, _⟩ : i < n ∧ True := by
      cases q : (List.range n)[i]? with
      | none => rw [q] at hd; cases hd
      | some j => exact ⟨by simpa using (List.getElem?_eq_some_iff.mp q).1, True.intro⟩
    rw [List.getElem?_range hlt] at hd
    cases hd
    exact ⟨S1, Ex.refl _, Ex.refl _, e2, fun _ h => .inl h, rfl⟩
theorem SemI.rng1 {te : TE} {m : Ev Sl} (h : Sem Γ W te m) : SemI Γ W (iRng1 (tCons te tNil)) (eIt rng1 m) := by
  refine SemI.of (k := fun x H1 R => ∃ j : Int, [x] = [.int j] ∧ -(2 ^ 62) ≤ j ∧ j < 2 ^ 62 ∧ R (Itr 0 j.toNat) H1) h fun S H d v ds R e r hf g => ?_
  unfold PM.rng1 at hf
  split at hf
  · split at hf
    · rename_i n hz
      cases hf
      rw [Bool.and_eq_true, decide_eq_true_eq, decide_eq_true_eq] at hz
      have q : v = .int n := r
      subst q
      exact ⟨n, rfl, by omega, by omega, g _ walk_rng⟩
    · cases hf
  · cases hf
/-! ### enumerate(list), zip(two of a kind) -/
def enumF : Nat → List D → List D
  | _, [] => []
  | i, d :: ds => .tup [.int (i : Int), d] :: enumF (i + 1) ds
def enumD : D → Option (List D)
  | .lst ds => some (enumF 0 ds)
  | .scr ns => some (enumF 0 (ns.map D.int))
  | _ => none
theorem enumF_len : ∀ (i : Nat) (ds : List D), (enumF i ds).length = ds.length
  | _, [] => rfl
  | i, d :: ds => by simp [enumF, enumF_len (i + 1) ds]
theorem enumF_get : ∀ {i j : Nat} {ds : List D} {e : D}, (enumF i ds)[j]? = some e → ∃ d, ds[j]? = some d ∧ e = .tup [.int ((i + j : Nat) : Int), d]
  | i, j, [], e, h => by simp [enumF] at h
  | i, 0, d :: ds, e, h => by simp [enumF] at h; exact ⟨d, rfl, h.symm⟩
  | i, j + 1, d :: ds, e, h => by
    obtain ⟨d', h1, h2⟩ := enumF_get (i := i + 1) (j := j) (by simpa [enumF] using h)
    exact ⟨d', by simpa using h1, by rw [h2, show i + 1 + j = i + (j + 1) by omega]⟩
/-- a new pair at T -/
theorem pair_new {T : Addr} {x y : V} {d e : D} (e2 : Ex S H) (hT : H T = none) (h1 : Rep Γ S d x) (h2 : Rep Γ S e y) :
    ∃ S2, Ex S S2 ∧ Ex H (upd H T (.tup [x, y])) ∧ Ex S2 (upd H T (.tup [x, y])) ∧ (∀ a, S2 a ≠ none → S a ≠ none ∨ H a = none) ∧ Rep Γ S2 (.tup [d, e]) (.ref T) := by
  have hS := free_sub e2 hT
  refine ⟨upd S T (.tup [x, y]), Ex.new hS, Ex.new hT, upd_ex e2, upd_dom hT, T, [x, y], rfl, upd_same, ?_⟩
  exact .cons (Rep.ex (Ex.new hS) _ _ h1) (.cons (Rep.ex (Ex.new hS) _ _ h2) rfl)
theorem walk_en {K : PySem.W.Frag} {a : Addr} {ds : List D} {vs : List V} (h : SqL K S a vs) (hr : Reps Γ S ds vs) : WalkD Γ S (Ite K a) (enumF 0 ds) where
  go := fun i H hi e => by
    rw [enumF_len] at hi
    have : i < vs.length := by rw [hr.length]; exact hi
    exact ⟨vs, vs[i], sql_ex e h, List.getElem?_eq_getElem this⟩
  stop := fun H e => ⟨vs, sql_ex e h, by rw [hr.length, enumF_len]; exact Nat.le_refl _⟩
  yld := fun i S1 H1 x H2 d e1 e2 hd hy => by
    obtain ⟨T, y, rfl, hT, rfl, hx⟩ := hy
    obtain ⟨d', h1, rfl⟩ := enumF_get hd
    obtain ⟨w, hw, r⟩ := hr.get h1
    rw [hx vs (sql_ex (e1.trans e2) h)] at hw
    cases hw
    rw [Nat.zero_add]
    exact pair_new e2 hT rfl (Rep.ex e1 _ _ r)
theorem SemI.enum {te : TE} {m : Ev Sl} (h : Sem Γ W te m) : SemI Γ W (iEnum Γ.K (tCons te tNil)) (eIt enumD m) := by
  refine SemI.of (k := fun x H1 R => ∃ a xs, [x] = [.ref a] ∧ SqL Γ.K H1 a xs ∧ R (Ite Γ.K a) H1) h fun S H d v ds R e r hf g => ?_
  unfold enumD at hf
  split at hf
  · cases hf
    obtain ⟨a, vs, rfl, h1, h2⟩ := r
    exact ⟨a, vs, rfl, .inl (.inl (e _ _ h1)), g _ (walk_en (.inl (.inl h1)) h2)⟩
  · cases hf
    obtain ⟨a, rfl, h1⟩ := r
    exact ⟨a, _, rfl, sql_ex e h1, g _ (walk_en h1 (Reps.of_ints _))⟩
  · cases hf
def zipF : List D → List D → List D
  | a :: as, b :: bs => .tup [a, b] :: zipF as bs
  | _, _ => []
theorem zipF_len : ∀ (as bs : List D), (zipF as bs).length = min as.length bs.length
  | [], _ => by simp [zipF]
  | _ :: _, [] => by simp [zipF]
  | a :: as, b :: bs => by
    rw [zipF, List.length_cons, zipF_len as bs, List.length_cons, List.length_cons]
    omega
theorem zipF_get : ∀ {j : Nat} {as bs : List D} {e : D}, (zipF as bs)[j]? = some e → ∃ a b, as[j]? = some a ∧ bs[j]? = some b ∧ e = .tup [a, b]
  | j, [], _, e, h => by simp [zipF] at h
  | j, _ :: _, [], e, h => by simp [zipF] at h
  | 0, a :: as, b :: bs, e, h => by simp [zipF] at h; exact ⟨a, b, rfl, rfl, h.symm⟩
  | j + 1, a :: as, b :: bs, e, h => by
    obtain ⟨x, y, h1, h2, h3⟩ := zipF_get (j := j) (as := as) (bs := bs) (by simpa [zipF] using h)
    exact ⟨x, y, by simpa using h1, by simpa using h2, h3⟩
def zipD : D → D → Option (List D)
  | .lst a, .lst b => some (zipF a b)
  | .tup a, .tup b => some (zipF a b)
  | _, _ => none
def eZip (m1 m2 : Ev Sl) : Ev (List D) := Ev.bind (eFr m1) fun s1 => Ev.bind (eFr m2) fun s2 ρ => match s1, s2 with
  | .sh a, .sh b => (match zipD a b with
    | some ds => .ok ds ρ
    | none => .bad)
  | _, _ => .bad
theorem walk_zp {J : It} {Sq : Hp → Addr → List V → Prop} {a b : Addr} {as bs : List D} {xs ys : List V} (ex : ∀ H H' c vs, Ex H H' → Sq H c vs → Sq H' c vs) (hJ : J = ⟨fun i H => ∃ (xs ys : List V) (x y : V), Sq H a xs ∧ Sq H b ys ∧ xs[i]? = some x ∧ ys[i]? = some y,
    fun i H v H' => ∃ T x y, v = .ref T ∧ H T = none ∧ H' = upd H T (.tup [x, y]) ∧ (∀ xs, Sq H a xs → xs[i]? = some x) ∧ ∀ ys, Sq H b ys → ys[i]? = some y,
    fun i H => ∃ xs ys : List V, Sq H a xs ∧ Sq H b ys ∧ (xs.length ≤ i ∨ ys.length ≤ i)⟩) (h1 : Sq S a xs) (r1 : Reps Γ S as xs) (h2 : Sq S b ys) (r2 : Reps Γ S bs ys) : WalkD Γ S J (zipF as bs) := by
  subst hJ
  refine ⟨fun i H hi e => ?_, fun H e => ⟨xs, ys, ex _ _ _ _ e h1, ex _ _ _ _ e h2, ?_⟩, fun i S1 H1 x H2 d e1 e2 hd hy => ?_⟩
  · rw [zipF_len] at hi
    have l1 : i < xs.length := by rw [r1.length]; omega
    have l2 : i < ys.length := by rw [r2.length]; omega
    exact ⟨xs, ys, xs[i], ys[i], ex _ _ _ _ e h1, ex _ _ _ _ e h2, List.getElem?_eq_getElem l1, List.getElem?_eq_getElem l2⟩
  · rw [zipF_len, r1.length, r2.length]
    omega
  · obtain ⟨T, u, w, rfl, hT, rfl, hx, hy⟩ := hy
    obtain ⟨d1, d2, g1, g2, rfl⟩ := zipF_get hd
    obtain ⟨w1, hw1, q1⟩ := r1.get g1
    obtain ⟨w2, hw2, q2⟩ := r2.get g2
    rw [hx xs (ex _ _ _ _ (e1.trans e2) h1)] at hw1
    rw [hy ys (ex _ _ _ _ (e1.trans e2) h2)] at hw2
    cases hw1
    cases hw2
    exact pair_new e2 hT (Rep.ex e1 _ _ q1) (Rep.ex e1 _ _ q2)
theorem SemI.zip {ta tb : TE} {m1 m2 : Ev Sl} (h1 : Sem Γ W ta m1) (h2 : Sem Γ W tb m2) : SemI Γ W (RZ.iZipA Γ.K (tCons ta (tCons tb tNil))) (eZip m1 m2) := by
  intro F ρ σ S H R I o
  refine (Sem.fr h1).bind pI_later I .refl o fun s1 ρ1 v1 l1 F1 S1 H1 I1 _ T1 hd1 hl1 o1 => ?_
  refine (Sem.fr h2).bind pI_later I1 T1 o1 fun s2 ρ2 v2 l2 F2 S2 H2 I2 t2 T2 hd2 hl2 o2 => ?_
  have hd1' := hd1.go t2
  show ∃ a b xs ys, [v1, v2] = [.ref a, .ref b] ∧ _
  split at o2
  · rename_i a b
    cases e : zipD a b with
    | none => simp only [e] at o2; exact o2.elim
    | some ds =>
      simp only [e] at o2
      have r1 := hd1'.r.2
      have r2 := hd2.r.2
      unfold zipD at e
      split at e
      · cases e
        obtain ⟨p, xs, rfl, g1, g2⟩ := r1
        obtain ⟨q, ys, rfl, g3, g4⟩ := r2
        exact ⟨p, q, xs, ys, rfl, .inl ⟨.inl (.inl (I2.sub _ _ g1)), .inl (.inl (I2.sub _ _ g3)), o2 F2 S2 H2 I2 T2 _ (walk_zp (Sq := SqL Γ.K) (fun _ _ _ _ e h => sql_ex e h) rfl (.inl (.inl g1)) g2 (.inl (.inl g3)) g4)⟩⟩
      · cases e
        obtain ⟨p, xs, rfl, g1, g2⟩ := r1
        obtain ⟨q, ys, rfl, g3, g4⟩ := r2
        exact ⟨p, q, xs, ys, rfl, .inr ⟨.inl (.inl (I2.sub _ _ g1)), .inl (.inl (I2.sub _ _ g3)), o2 F2 S2 H2 I2 T2 _ (walk_zp (Sq := SqT Γ.K) (fun _ _ _ _ e h => sqt_ex e h) rfl (.inl (.inl g1)) g2 (.inl (.inl g3)) g4)⟩⟩
      · cases e
  · exact o2.elim
end
end PM

set_option Elab.async false
set_option linter.all false
set_option maxRecDepth 100000
set_option maxHeartbeats 4000000
/-! PM, part j: exceptions: try .. except X as e with e tracked, e.f, isinstance(e, ..), raise. -/
namespace PM
open PySem PySem.Spec PyProof.Rows L2

theorem exT_ok {P : Program} {w : World} {H : Hp} {h : Heap} {a : Addr} {cls : Value} {d : Option Addr} {oe : Obj} {vs : Array Value} (e : h.get? a = some oe) (z : Zc cls d oe) (q : oe.data = .fields vs) : ObjOk P w H h a (ExT cls d a) :=
  ⟨⟨oe, vs, e, z, q⟩, ⟨oe, e⟩, fun _ _ ⟨o, v, q, r⟩ k => ⟨o, v, k o q, r⟩⟩
theorem exT_at {P : Program} {w : World} {H : Hp} {h : Heap} {a : Addr} {cls : Value} {d : Option Addr} (hok : HOk P w H h) (e : H a = some (ExT cls d a)) : ∃ oe vs, h.get? a = some oe ∧ Zc cls d oe ∧ oe.data = .fields vs := by
  have x : ObjOk P w H h a (.ext fun h => ∃ (oe : Obj) (vs : Array Value), h.get? a = some oe ∧ Zc cls d oe ∧ oe.data = .fields vs) := hok a _ e
  exact x.1

section
variable {X : Cx} {pins : List (Addr × Obj)} {σ : L2.St} {H : Hp} {s s' sI : Shared} {B : Heap} {a : Addr} {o : HO}
theorem landedT (I : Inv X pins σ H sI) (nb : ∀ b o, sI.heap.get? b = some o → b ∉ frs X.stack → B.get? b = some o) (st : B.StaysIn s'.heap) (up : sI.heap.UpToSlots s'.heap) (os : s'.os = sI.os) (ag : AllBare s'.gens)
    (na : H a = none) (hB : B.get? a = none) (nfr : a ∉ frs X.stack) (new : ObjOk X.prog X.w (upd H a o) s'.heap a o) : Inv X pins σ (upd H a o) s' := by
  have nf : ∀ b ∈ frs X.stack, ∀ o, sI.heap.get? b = some o → ∃ sl, s'.heap.get? b = some { o with slots := sl } := fun b hb o e => by
    obtain ⟨_, o', e', hd⟩ := I.stack.mem hb
    rw [e] at e'; cases e'
    exact up b o e hd
  have hsI : ∀ b o, sI.heap.get? b = some o → b ≠ a := fun b o e z => by
    rw [z] at e
    have q := nb a o e nfr
    rw [hB] at q
    cases q
  have J := I.call (ch := []) (h' := s'.heap) (g' := s'.gens) (t' := s'.toks) (d' := s'.drawn) (H' := upd H a o)
    ⟨fun b o e _ hb _ => st b o (nb b o e hb), fun b o e _ hb _ => nf b hb o e, fun b o e n _ => by rw [upd_ne (hsI b o e)]; exact n, fun b o e _ => by
      by_cases hb : b ∈ frs X.stack
      · obtain ⟨sl, q⟩ := nf b hb o e
        exact ⟨_, q⟩
      · exact ⟨o, st b o (nb b o e hb)⟩, fun b _ e => by rw [upd_ne (ne_of_none e na)]; exact e, fun b _ _ e => by rw [upd_ne (ne_of_none e na)]; exact e,
      fun b ps e => ⟨#[], by rw [upd_ne (ne_of_none e na), e]; simp⟩⟩
    ((I.inGround nb).laidN (fun b u e => st b u e) na new) ag (fun _ z => nomatch z)
  obtain ⟨a1, a2, a3, a4, a5⟩ := s'
  have e5 : a5 = sI.os := os
  subst e5
  exact J
theorem suiteT (I : Inv X pins σ H s) : Inv (X.suite a (X.pn ++ pins)) [] σ H s :=
  ⟨I.ok.suite _ _, I.os, I.bare, I.base, I.loc, I.cell, I.free, I.freeC, fun p hp => I.pin p (by rw [List.append_nil] at hp; exact hp), I.hok, I.len⟩
theorem unsuiteT {pn' : List (Addr × Obj)} (I : Inv (X.suite a (X.pn ++ pins)) pn' σ H s) (ok : X.Ok) : Inv X pins σ H s :=
  ⟨ok, I.os, I.bare, I.base, I.loc, I.cell, I.free, I.freeC, fun p hp => I.pin p (List.mem_append_left _ hp), I.hok, I.len⟩
end

def wAsT (K : PySem.W.Frag) (c : Value) (i : Nat) (ts : TS) (Wout : WX) (D : Ends) : WX := fun cls d σ H =>
  ∃ b, PySem.W.exmOne K cls c = some b ∧ (b = true → ∀ a, H a = none → ts { nx := fun σ' H' => D.nx (σ'.set i none) H', rt := D.rt, bk := fun σ' H' => D.bk (σ'.set i none) H', ct := fun σ' H' => D.ct (σ'.set i none) H' } (σ.set i (some (.ref a))) (upd H a (ExT cls d a))) ∧
    (b = false → Wout cls d σ H)
def tTry (K : PySem.W.Frag) (c : Value) (i : Nat) (tb : WX → TS) (ts : TS) (Wout : WX) : TS := fun D σ H => tb (wAsT K c i ts Wout D) D σ H
section
variable {X : Cx} {x n : Str} {c : Value} {i : Nat} {body suite : List Stmt} {b₀ : Stmt} {np pos pos' : Pos} {tb : WX → TS} {ts : TS} {Wout : WX}
theorem ps_try_v (hs : X.stack = X.env :: X.outer) (hf : X.env.frame = some X.env.locals) (hN : X.N.Nodup) (hi : X.N[i]? = some n) (hln : X.env.kindOf n = some .local) (hc : Names X x c) (tk : Takes X Wout)
    (hb : ∀ (W : WX) (pn : List (Addr × Obj)) (xe : Value → Shared → Prop), Takes (X.tr pn xe) W → PassesOwn (model X.prog X.w) X.A X.env xe → PSs (X.tr pn xe) body (tb W))
    (hsu : ∀ (a : Addr) (pn : List (Addr × Obj)), PSs (X.suite a pn) (b₀ :: suite) ts) :
    PS X (.Try body [.ExceptHandler (some (.Name x np)) (some n) (b₀ :: suite) pos'] [] [] pos) (tTry X.K c i tb ts Wout) := by
  refine ⟨fun pins s σ H D I h => ?_⟩
  have ok := I.ok
  have hfr : X.A.frames = some (X.env :: X.outer) := by rw [ok.frames, hs]
  have hloc : Loc X.env.scope n := .inl hln
  refine wpAny_Try_except ?_
  refine wpAny_mono ((hb (wAsT X.K c i ts Wout D) (X.pn ++ pins) (fun e s₁ => wpAny (model X.prog X.w) X.A (noteFrame e X.env) (fun _ s₂ => wpAny (model X.prog X.w) X.A (setFlight e none) (fun _ s₃ =>
    wpAny (model X.prog X.w) X.A (handleBy e X.env [.ExceptHandler (some (.Name x np)) (some n) (b₀ :: suite) pos']) (SP X pins D) X.xe s₃) X.xe s₂) X.xe s₁) (fun u s' xx => ?_) PassesOwn.looking).run [] s σ H D (I.toTry _) h) (fun f s1 hsp => ?_) (fun e s1 he => he)
  · -- the catch
    obtain ⟨a, B, sI, pins', σ', H', cls, d, rfl, J', nb, up, sky, na, os, ag, b, hb1, hyes, hno⟩ := xx
    have J : Inv X pins σ' H' sI := J'.ofTry ok
    have sky' : Sky B (X.env :: X.outer) a (Zc cls d) X.env.locals s'.heap := by rw [← hs]; exact sky
    show wpAny (model X.prog X.w) X.A (noteFrame (.ref a) X.env) _ _ _
    refine Sky.land Zc.steady hfr hf sky' fun h3 fl3 up3 => ?_
    have J3 : Inv X pins σ' H' { s' with heap := h3 } := J.landed nb fl3.1 (up.trans up3) os ag
    obtain ⟨oe3, vs3, he3, hz3, hd3⟩ := fl3.there
    have notFr : ∀ {h : Heap} {o : Obj} {vs : Array Value}, h.FunFrames B (X.env :: X.outer) → h.get? a = some o → o.data = .fields vs → a ∉ frs (X.env :: X.outer) := fun {h o vs} ff e dd hm => by
      obtain ⟨_, o', e', hnf⟩ := ff.mem hm
      rw [e] at e'; cases e'
      exact hnf _ dd
    have nfr := notFr fl3.2.2.1 he3 hd3
    have S3 := suiteT (a := a) J3
    refine wpAny_handleBy_cons (codeAny_handlers_test ?_) (by intro q; cases q)
    have LT : PySem.W.Looks (model X.prog X.w) h3 (typeOf (.ref a)) cls := fun A Q E s k q => wpAny_typeOf_ref (k _ _ he3) (by rw [hz3.1]; exact q)
    have LM := PySem.W.exm_one (M := model X.prog X.w) (J3.kIn) LT hb1
    have test : ∀ {Q : Value → Shared → Prop} {E : Value → Shared → Prop}, Q c { s' with heap := h3 } → wpAny (model X.prog X.w) (X.A.mark (some (.ref a))) (eval (.Name x np) X.env) Q E { s' with heap := h3 } := fun {Q E} q => by
      obtain ⟨hg, hdbg, hm | ⟨hm, hv, hnn⟩⟩ := hc
      · exact ld_glob (X := X.suite a (X.pn ++ pins)) S3 hg hm q hdbg
      · exact ld_blt (X := X.suite a (X.pn ++ pins)) S3 hg hm hv q hnn hdbg
    refine test (LM.here ?_)
    cases b with
    | true =>
      refine codeAny_handlers_suite_as ?_
      refine HandSPX.lands_againZ fl3 fun h4 fl4 up4 => ?_
      obtain ⟨oe4, vs4, he4, hz4, hd4⟩ := fl4.there
      have J4 : Inv X pins σ' (upd H' a (ExT cls d a)) { s' with heap := h4 } := landedT J nb fl4.1 ((up.trans up3).trans up4) os ag na fl4.2.1 (by rw [hs]; exact nfr) (exT_ok he4 hz4 hd4)
      have S4 := suiteT (a := a) J4
      refine store_ok (X := X.suite a (X.pn ++ pins)) (v := .ref a) S4 hN hi hloc rfl (fun s5 S5 => ?_) (.inr hln)
      refine wpAny_mono ((hsu a (X.pn ++ pins)).run [] s5 _ _ _ S5 (hyes rfl a na)) (fun f s6 hsp => ?_) (fun _ _ z => False.elim z)
      have end_ : ∀ {σ6 : L2.St} {H6 : Hp} {Q : Shared → Prop}, Inv (X.suite a (X.pn ++ pins)) [] σ6 H6 s6 → (∀ s7, Inv X pins (σ6.set i none) H6 s7 → Q s7) →
          wpAny (model X.prog X.w) X.A (do bindName X.env n .none; unbindBehindTheSuite X.env n pos') (fun _ s7 => Q s7) X.xe s6 := fun {σ6 H6 Q} S6 hq => gone_ok (unsuiteT S6 ok) hN hi hln hq
      cases f with
      | next =>
        obtain ⟨σ6, H6, S6, q6⟩ := hsp
        exact end_ S6 fun s7 J7 => ⟨_, _, J7, q6⟩
      | brk =>
        obtain ⟨σ6, H6, S6, q6⟩ := hsp
        exact end_ S6 fun s7 J7 => ⟨_, _, J7, q6⟩
      | cont =>
        obtain ⟨σ6, H6, S6, q6⟩ := hsp
        exact end_ S6 fun s7 J7 => ⟨_, _, J7, q6⟩
      | ret u =>
        obtain ⟨v6, σ6, H6, S6, r6, q6⟩ := hsp
        exact end_ S6 fun s7 J7 => ⟨_, _, _, J7, r6, q6⟩
    | false =>
      show wpAny _ X.A (handleBy (.ref a) X.env []) _ _ _
      refine wpAny_handleBy_nil ?_
      obtain ⟨k1, k2, k3, oe, vs, T, oT, ts', he, hz, hd, h1, hr⟩ := id fl3
      unfold PySem.passOn
      refine wpAny_bind (wpAny_field he hd h1 ?_)
      rw [if_neg (show ¬ ((Value.ref T == Value.none) = true) from by simp)]
      have fin : wpAny (model X.prog X.w) X.A (setFlight (.ref a) X.env.frame) (fun _ s4 => wpAny (model X.prog X.w) X.A (throw (.ref a) : PySem.Sem Flow) (SP X pins D) X.xe s4) X.xe { s' with heap := h3 } := by
        rw [hf]
        refine HandSPX.setFlight_upZ fl3 fun h4 hh4 up4 => wpAny_throw (tk _ _ ?_)
        exact ⟨a, B, sI, pins, σ', H', cls, d, rfl, J, nb, (up.trans up3).trans up4, .inr (.inr (by rw [hs]; exact hh4)), na, os, ag, hno rfl⟩
      first
        | exact wpAny_bind (wpAny_pure (wpAny_bind fin))
        | exact wpAny_bind fin
  · cases f with
    | next =>
      obtain ⟨σ', H', J', q⟩ := hsp
      exact wpAny_execs_nil ⟨σ', H', J'.ofTry ok, q⟩
    | brk =>
      obtain ⟨σ', H', J', q⟩ := hsp
      exact ⟨σ', H', J'.ofTry ok, q⟩
    | cont =>
      obtain ⟨σ', H', J', q⟩ := hsp
      exact ⟨σ', H', J'.ofTry ok, q⟩
    | ret u =>
      obtain ⟨v, σ', H', J', r, q⟩ := hsp
      exact ⟨v, σ', H', J'.ofTry ok, r, q⟩
end

/-! ### what it means -/
def sTry (i : Nat) (cm : Nat → Option Bool) (body suite : Sv) : Sv := fun ρ => match body ρ with
  | .exc c fs ρ' => (match cm c with
    | some true => (match suite (ρ'.set i (.sh (.exc c fs))) with
      | .nx ρ2 => .nx (ρ2.set i .no)
      | .bk ρ2 => .bk (ρ2.set i .no)
      | .ct ρ2 => .ct (ρ2.set i .no)
      | .rt s ρ2 => .rt s ρ2
      | _ => .bad)
    | some false => .exc c fs ρ'
    | none => .bad)
  | r => r
section
variable {Γ : Cfg} {W : WX} {A : Nat → Bool} {i : Nat} {c : Value} {tb : WX → TS} {ts : TS} {body suite : Sv} {cm : Nat → Option Bool}
/-- the caught exception is tracked -/
theorem FI.caught {F : List (List Addr)} {ρ : Env} {σ : L2.St} {S H : Hp} {k : Nat} {fs : List D} {cls : Value} {dd : Option Addr} {a : Addr} (I : FI Γ F ρ σ S H) (x : XR Γ F S H k fs cls dd) (na : H a = none) :
    ∃ S', FI Γ F ρ σ S' (upd H a (ExT cls dd a)) ∧ Rep Γ S' (.exc k fs) (.ref a) ∧ Ex S S' ∧ (∀ b, S' b ≠ none → S b ≠ none ∨ b = a ∨ some b = dd) := by
  obtain ⟨rfl, d, vs, rfl, hd, hr, hn, hS⟩ := x
  have Sa : S a = none := free_sub I.sub na
  have da : d ≠ a := fun z => by rw [z, na] at hd; cases hd
  have e1 : Ex S (upd S d (.xd ((Γ.xf k).zip vs))) := Ex.new hS
  have n2 : upd S d (.xd ((Γ.xf k).zip vs)) a = none := by rw [upd_ne (Ne.symm da)]; exact Sa
  have e2 := Ex.new (o := ExT (.ref (Γ.cls k)) (some d) a) n2
  have aF : a ∉ F.flatten := fun z => I.there a z na
  refine ⟨upd (upd S d (.xd ((Γ.xf k).zip vs))) a (ExT (.ref (Γ.cls k)) (some d) a), ⟨fun b o e => ?_, I.all.go (e1.trans e2) fun b hb o e => ?_, I.nd, fun b hb => ?_⟩, ⟨a, d, vs, rfl, upd_same, ?_, Reps.ex (e1.trans e2) _ _ hr⟩, e1.trans e2, fun b hb => ?_⟩
  · by_cases h1 : b = a
    · subst h1; rw [upd_same] at e ⊢; exact e
    · rw [upd_ne h1] at e ⊢
      by_cases h2 : b = d
      · subst h2; rw [upd_same] at e; rw [hd]; exact e
      · rw [upd_ne h2] at e; exact I.sub b o e
  · rw [upd_ne (ne_of_none e na)]; exact e
  · have h1 : b ≠ a := fun z => aF (z ▸ hb)
    have h2 : b ≠ d := fun z => hn (z ▸ hb)
    rw [upd_ne h1, upd_ne h2]; exact I.off b hb
  · rw [upd_ne da]; exact upd_same
  · by_cases h1 : b = a
    · exact .inr (.inl h1)
    · by_cases h2 : b = d
      · exact .inr (.inr (by rw [h2]))
      · rw [upd_ne h1, upd_ne h2] at hb; exact .inl hb
theorem SemS.tryS (hA : A i = true) (hcm : ∀ k b, cm k = some b → PySem.W.exmOne Γ.K (.ref (Γ.cls k)) c = some b) (hb : ∀ W', SemS Γ W' A (tb W') body) (hs : SemS Γ (fun _ _ _ _ => False) A ts suite) : SemS Γ W A (tTry Γ.K c i tb ts W) (sTry i cm body suite) := by
  intro F ρ σ S H D I o
  refine hb _ F ρ σ S H D I ?_
  unfold sTry at o
  cases e : body ρ with
  | nx ρ' => simp only [e] at o; exact o
  | bk ρ' => simp only [e] at o; exact o
  | ct ρ' => simp only [e] at o; exact o
  | rt s ρ' => simp only [e] at o; exact o
  | bad => simp only [e] at o; exact o
  | exc k fs ρ' =>
    simp only [e] at o
    intro cls dd σ1 F1 S1 H1 I1 T1 G1 hl x
    cases em : cm k with
    | none => simp only [em] at o; exact o.elim
    | some b =>
      refine ⟨b, by rw [x.1]; exact hcm k b em, fun hbt a na => ?_, fun hbf => ?_⟩
      · subst hbt
        simp only [em] at o
        obtain ⟨S2, I2, r2, x2, d2⟩ := I1.caught x na
        have T2 : Tr F S H (F1.set i []) S2 (upd H1 a (ExT cls dd a)) := ⟨T1.st.trans x2, fun b u hb hf => by
            have q := T1.keep b u hb hf
            rw [upd_ne (ne_of_none q na)]; exact q, fun b hb => ?_, fun b hb => T1.fsub b (mem_set_nil hb)⟩
        · have I3 := I2.set (i := i) (.sh r2) (fun j z => nomatch z)
          have G3 : Agree A σ (σ1.set i (some (.ref a))) := G1.trans (.set hA)
          refine hs _ _ _ _ _ _ I3 ?_
          cases es : suite (ρ'.set i (.sh (.exc k fs))) with
          | nx ρ2 =>
            simp only [es] at o
            intro σ2 F2 S3 H3 I4 T4 G4
            exact o _ _ S3 H3 (I4.setNo i none) ((T2.trans T4).sub fun b hb => (T2.trans T4).fsub b (mem_set_nil hb)) ((G3.trans G4).trans (.set hA))
          | bk ρ2 =>
            simp only [es] at o
            intro σ2 F2 S3 H3 I4 T4 G4
            exact o _ _ S3 H3 (I4.setNo i none) ((T2.trans T4).sub fun b hb => (T2.trans T4).fsub b (mem_set_nil hb)) ((G3.trans G4).trans (.set hA))
          | ct ρ2 =>
            simp only [es] at o
            intro σ2 F2 S3 H3 I4 T4 G4
            exact o _ _ S3 H3 (I4.setNo i none) ((T2.trans T4).sub fun b hb => (T2.trans T4).fsub b (mem_set_nil hb)) ((G3.trans G4).trans (.set hA))
          | rt s ρ2 =>
            simp only [es] at o
            intro v l σ2 F2 S3 H3 I4 T4 G4 hl4 hd4
            exact o v l σ2 F2 S3 H3 I4 (T2.trans T4) (G3.trans G4) (fun b hb => T2.up b (hl4 b hb)) hd4
          | exc k2 fs2 ρ2 => simp only [es] at o; exact o.elim
          | bad => simp only [es] at o; exact o.elim
        · rcases d2 b hb with z | z | z
          · exact T1.dom b z
          · subst z; exact .inr ((T1.back na).elim .inr .inl)
          · exact .inr ((hl b z.symm).elim .inr .inl)
      · subst hbf
        simp only [em] at o
        exact o cls dd σ1 F1 S1 H1 I1 T1 G1 hl x
end
end PM

set_option Elab.async false
set_option linter.all false
set_option maxRecDepth 100000
set_option maxHeartbeats 4000000
/-! PM, part k: a < b < c, split, join, raise, e.f. -/
namespace PM
open PySem PySem.Spec PyProof.Rows L2 TL

section
variable {Γ : Cfg} {W : WX} {A : Nat → Bool} {F F' F0 : List (List Addr)} {S S' S0 H H' H0 : Hp} {ρ ρ' : Env} {σ : L2.St} {x y v : V} {d e : D} {Q : VK} {ta tb tc te : TE} {m m1 m2 m3 : Ev Sl}
/-! ### a chain, of shared ones (what is compared are numbers) -/
def eChn (f g : D → D → Option Bool) (m1 m2 m3 : Ev Sl) : Ev Bool := Ev.bind (eFr m1) fun a => Ev.bind (eFr m2) fun b ρ => match a, b with
  | .sh x, .sh y => (match f x y with
    | some true => Ev.bind (eFr m3) (fun c ρ => match c with
      | .sh z => (match g y z with
        | some k => .ok k ρ
        | none => .bad)
      | _ => .bad) ρ
    | some false => .ok false ρ
    | none => .bad)
  | _, _ => .bad
/-- an operation that tells a truth value of two shared ones -/
structure BlD (Γ : Cfg) (r : R2) (f : D → D → Option Bool) : Prop where
  run : ∀ S H a b x y k Q, Ex S H → Rep Γ S a x → Rep Γ S b y → f a b = some k → Q (.bl k) H → r x y H Q
theorem Sem.chain {r r' : R2} {f g : D → D → Option Bool} (hf : BlD Γ r f) (hg : BlD Γ r' g) (h1 : Sem Γ W ta m1) (h2 : Sem Γ W tb m2) (h3 : Sem Γ W tc m3) : SemT Γ W (tTest (tChain r r' ta tb tc)) (eChn f g m1 m2 m3) := by
  intro F ρ σ S H Q I o
  refine (Sem.fr h1).bind pT_later I .refl o fun s1 ρ1 v1 l1 F1 S1 H1 I1 _ T1 hd1 hl1 o1 => ?_
  refine (Sem.fr h2).bind pT_later I1 T1 o1 fun s2 ρ2 v2 l2 F2 S2 H2 I2 t2 T2 hd2 hl2 o2 => ?_
  have hd1' := hd1.go t2
  split at o2
  · rename_i a b
    have r1 := hd1'.r.2
    have r2 := hd2.r.2
    cases e : f a b with
    | none => simp only [e] at o2; exact o2.elim
    | some k =>
      refine hf.run S2 H2 a b v1 v2 k _ I2.sub r1 r2 e ⟨k, rfl, ?_⟩
      cases k with
      | false =>
        simp only [e] at o2
        rw [if_neg Bool.false_ne_true]
        exact ⟨false, rfl, o2 F2 S2 H2 I2 T2⟩
      | true =>
        simp only [e] at o2
        rw [if_pos rfl]
        refine (Sem.fr h3).bind pT_later I2 T2 o2 fun s3 ρ3 v3 l3 F3 S3 H3 I3 t3 T3 hd3 hl3 o3 => ?_
        split at o3
        · rename_i z
          have r2' := Rep.ex t3.st _ _ r2
          cases e3 : g b z with
          | none => simp only [e3] at o3; exact o3.elim
          | some k =>
            simp only [e3] at o3
            exact hg.run S3 H3 b z v2 v3 k _ I3.sub r2' hd3.r.2 e3 ⟨k, rfl, o3 F3 S3 H3 I3 T3⟩
        · exact o3.elim
  · exact o2.elim

/-! ### split, join -/
theorem tl_tx (l : List Nat) : tl (tx l) = l := tx_cps l
theorem tx_tl (x : Str) : tx (tl x) = x := tx_of x
def okB (l : List Nat) : Bool := l.all (· < 256)
def splitL (x y : List Nat) : Option (List D) := if okL (x.length + 2) && (okB y && !y.isEmpty) then some ((spl y 0 [] x).map D.str) else none
def eSplit (m1 m2 : Ev Sl) : Ev Sl := Ev.bind (eFr m1) fun a => match a with
  | .sh (.str x) => Ev.bind (eFr m2) fun b ρ => match b with
    | .sh (.str y) => (match splitL x y with
      | some ds => .ok (.ow (.lst ds)) ρ
      | none => .bad)
    | _ => .bad
  | _ => fun _ => .bad
theorem reps_strs (ys : List Str) : Reps Γ S ((ys.map tl).map D.str) (ys.map V.str) := by
  induction ys with
  | nil => exact .nil
  | cons y ys ih => exact .cons (show V.str y = .str (tx (tl y)) by rw [tx_tl]) ih
theorem tx_all {l : List Nat} (h : okB l = true) : (tx l).cps.all (· < 256) = true := by
  rw [← Array.all_toList, tx_cps]; exact h
theorem Sem.split (h1 : Sem Γ W ta m1) (h2 : Sem Γ W tb m2) :
    Sem Γ W (tM1 (fun x xs H Q => ∃ a b, x = .str a ∧ xs = [.str b] ∧ (b.length == 0) = false ∧ a.length + 2 ≤ sizeLine ∧ rNewStrs (Txt.split a b) H Q) ta tb) (eSplit m1 m2) := by
  intro F ρ σ S H Q I o
  refine (Sem.fr h1).bind pE_later I .refl o fun s1 ρ1 v1 l1 F1 S1 H1 I1 _ T1 hd1 hl1 o1 => ?_
  split at o1
  · rename_i x
    have r1 := hd1.r.2
    refine ⟨⟨tx x, r1⟩, ?_⟩
    refine (Sem.fr h2).bind pE_later I1 T1 o1 fun s2 ρ2 v2 l2 F2 S2 H2 I2 t2 T2 hd2 hl2 o2 => ?_
    split at o2
    · rename_i y
      have r2 := hd2.r.2
      cases e : splitL x y with
      | none => simp only [e] at o2; exact o2.elim
      | some ds =>
        simp only [e] at o2
        unfold splitL at e
        split at e
        · rename_i hz
          cases e
          rw [Bool.and_eq_true, Bool.and_eq_true] at hz
          obtain ⟨z1, z2, z3⟩ := hz
          have hy : y ≠ [] := by cases y <;> simp_all
          refine ⟨tx x, tx y, r1, by rw [show v2 = .str (tx y) from r2], ?_, ?_, fun p hp => ?_⟩
          · rw [tx_len]; cases y with
            | nil => exact absurd rfl hy
            | cons a y => rfl
          · rw [tx_len]; exact okL_le z1
          · have k := split_spl (tx x) (tx y) (by rw [tl_tx]; exact hy) (kind_ok (tx_all z2))
            rw [tl_tx, tl_tx] at k
            have rr := reps_strs (Γ := Γ) (S := S2) (Txt.split (tx x) (tx y))
            rw [k] at rr
            exact ((o2 : Out Γ W (pE Γ σ Q) F S H σ (.ok _ _)).later pE_later T2 |>.give I2).newL I2.sub rr p hp
        · cases e
    · exact o2.elim
  · exact o1.elim
def strsD : List D → Option (List (List Nat))
  | [] => some []
  | .str s :: r => (strsD r).map fun t => s :: t
  | _ :: _ => none
theorem strsD_ok : ∀ {ds : List D} {vs : List V} {ys : List (List Nat)}, strsD ds = some ys → Reps Γ S ds vs → vs = (ys.map tx).map V.str
  | [], vs, ys, h, r => by cases h; cases r; rfl
  | d :: ds, vs, ys, h, r => by
    cases d with
    | str s =>
      simp only [strsD] at h
      cases e : strsD ds with
      | none => rw [e] at h; cases h
      | some t =>
        rw [e] at h
        cases h
        obtain ⟨v, r', rfl, h1, h2⟩ := r
        have q : v = .str (tx s) := h1
        subst q
        rw [strsD_ok e h2]
        rfl
    | _ => simp [strsD] at h
def joinD (y : List Nat) (d : D) : Option D :=
  match (match d with | .lst ds => some ds | .tup ds => some ds | _ => none) with
  | some ds => (match strsD ds with
    | some ps => if okL ((ps.map List.length).sum + ps.length * y.length) then some (.str (joinL y ps)) else none
    | none => none)
  | none => none
def eJoin (m1 m2 : Ev Sl) : Ev Sl := Ev.bind (eFr m1) fun a => match a with
  | .sh (.str y) => Ev.bind m2 fun b ρ => (match (look ρ b).bind (joinD y) with
    | some z => .ok (.sh z) ρ
    | none => .bad)
  | _ => fun _ => .bad
theorem okL_16 {n : Nat} (h : okL n = true) : n ≤ 16777216 := Nat.le_trans (Nat.le_of_ble_eq_true h) (by decide)
theorem Sem.join (h1 : Sem Γ W ta m1) (h2 : Sem Γ W tb m2) :
    Sem Γ W (tM1 (fun x xs H Q => ∃ a p, ∃ ys : List Str, x = .str a ∧ xs = [.ref p] ∧ (SqL Γ.K H p (ys.map V.str) ∨ SqT Γ.K H p (ys.map V.str)) ∧
      (ys.map (·.length)).sum + ys.length * a.length ≤ 16777216 ∧ Q (.str (Txt.join a ys)) H) ta tb) (eJoin m1 m2) := by
  intro F ρ σ S H Q I o
  refine (Sem.fr h1).bind pE_later I .refl o fun s1 ρ1 v1 l1 F1 S1 H1 I1 _ T1 hd1 hl1 o1 => ?_
  split at o1
  · rename_i y
    have r1 := hd1.r.2
    refine ⟨⟨tx y, r1⟩, ?_⟩
    refine h2.bind pE_later I1 T1 o1 fun s2 ρ2 v2 l2 F2 S2 H2 I2 t2 T2 hd2 hl2 o2 => ?_
    cases e0 : look ρ2 s2 with
    | none => simp only [e0, Option.bind] at o2; exact o2.elim
    | some d =>
      have lk := look_ok I2 hd2 e0
      simp only [e0, Option.bind] at o2
      cases e : joinD y d with
      | none => simp only [e] at o2; exact o2.elim
      | some z =>
        simp only [e] at o2
        have fin : ∀ (ds : List D) (vs : List V) (p : Addr), Reps Γ S2 ds vs → (match strsD ds with
            | some ps => if okL ((ps.map List.length).sum + ps.length * y.length) then some (D.str (joinL y ps)) else none
            | none => none) = some z → v2 = .ref p → (SqL Γ.K H2 p vs ∨ SqT Γ.K H2 p vs) →
            ∃ a p, ∃ ys : List Str, v1 = .str a ∧ [v2] = [.ref p] ∧ (SqL Γ.K H2 p (ys.map V.str) ∨ SqT Γ.K H2 p (ys.map V.str)) ∧
              (ys.map (·.length)).sum + ys.length * a.length ≤ 16777216 ∧ Q (.str (Txt.join a ys)) H2 := fun ds vs p rr hz hv hs => by
          cases es : strsD ds with
          | none => rw [es] at hz; cases hz
          | some ps =>
            rw [es] at hz
            dsimp only at hz
            split at hz
            · rename_i hk
              cases hz
              have ev := strsD_ok es rr
              subst ev
              refine ⟨tx y, p, ps.map tx, r1, by rw [hv], hs, ?_, ?_⟩
              · have e1 : ((ps.map tx).map (·.length)) = ps.map List.length := by
                  rw [List.map_map]; exact List.map_congr_left fun a _ => tx_len a
                rw [e1, List.length_map, tx_len]
                exact okL_16 hk
              · have e2 : Txt.join (tx y) (ps.map tx) = tx (joinL y ps) := by
                  rw [join_eq, ← tx_tl (Str.join _ _), tl_join, tl_tx, List.map_map]
                  congr 2
                  have : (tl ∘ tx) = id := funext tl_tx
                  rw [this, List.map_id]
                rw [e2]
                exact o2 F2 S2 H2 I2 T2 _ [] (by simp) (.sh rfl)
            · cases hz
        unfold joinD at e
        cases d with
        | lst ds =>
          obtain ⟨p, vs, q1, q2, q3⟩ := lk
          exact fin ds vs p q3 e q1 (.inl (.inl (.inl q2)))
        | tup ds =>
          obtain ⟨p, vs, q1, q2, q3⟩ := lk
          exact fin ds vs p q3 e q1 (.inr (.inl (.inl (I2.sub _ _ q2))))
        | _ => cases e
  · exact o1.elim

/-! ### e.f of a caught exception -/
def tXfT (K : PySem.W.Frag) (f : Str) (te : TE) : TE := fun σ H Q => te σ H fun x H1 => ∃ (a C d : Addr) (fs : List (Str × V)) (v : V), x = .ref a ∧ H1 a = some (ExT (.ref C) (some d) a) ∧ XfC K C ∧ PySem.W.findIn K (.ref C) f = some none ∧ H1 d = some (.xd fs) ∧ fs.lookup f = some v ∧ Q v H1
theorem pe_xfT {X : Cx} {e : Expr} {te : TE} {pos : Pos} {n : Str} (he : PE X e te) (hb : attributeBase e n X.env (eval e X.env) = eval e X.env := by rfl) : PE X (.Attribute e n pos) (tXfT X.K n te) := by
  refine ⟨fun pins s σ H Q I h => ?_⟩
  refine attr_of hb (thn (he.run pins s σ H _ I h) fun u s1 hh => ?_)
  obtain ⟨x, H1, I1, rx, a, C, dd, fs, v, ex, ea, T, hno, ed, l, q⟩ := hh
  subst ex
  obtain rfl : u = Value.ref a := rx
  obtain ⟨oe, vs, ha, hz, hd⟩ := exT_at I1.hok ea
  have hx : ObjOk X.prog X.w H1 s1.heap dd (.xd fs) := I1.hok dd _ ed
  obtain ⟨mA, hns, hr⟩ := hx
  obtain ⟨od, ho, hl⟩ := lookIn_ns hns
  obtain ⟨u, hu, ru⟩ := RelO.some_of (v := v) (o := mA n) (by rw [← l]; exact hr n)
  have J : PySem.W.InstAt s1.heap a oe C (some od) := ⟨ha, hz.1, by unfold PySem.W.notCls; rw [hd] <;> rfl, by rw [hz.2]; exact ho⟩
  exact HandSPX.exc_get I1.kIn J T.ga T.gg T.exC (PySem.W.findObj_own T.hdC hno rfl (by rw [hl, hu])) (handed_of ru) ⟨v, H1, I1.tok _, ru, q⟩
def eXf (fi : Nat → Option Nat) (m : Ev Sl) : Ev Sl := Ev.bind (eFr m) fun s ρ => match s with
  | .sh (.exc c fs) => (match (fi c).bind fun j => fs[j]? with
    | some d => .ok (.sh d) ρ
    | none => .bad)
  | _ => .bad
theorem Sem.xf {f : Str} {fi : Nat → Option Nat} (hf : ∀ c j, fi c = some j → XfC Γ.K (Γ.cls c) ∧ PySem.W.findIn Γ.K (.ref (Γ.cls c)) f = some none ∧ ∀ (vs : List V) v, vs[j]? = some v → ((Γ.xf c).zip vs).lookup f = some v) (h : Sem Γ W te m) : Sem Γ W (tXfT Γ.K f te) (eXf fi m) := by
  intro F ρ σ S H Q I o
  refine (Sem.fr h).bind pE_later I .refl o fun s1 ρ1 v1 l1 F1 S1 H1 I1 _ T1 hd1 hl1 o1 => ?_
  split at o1
  · rename_i c fs
    obtain ⟨a, d, vs, q1, q2, q3, q4⟩ := hd1.r.2
    cases e : (fi c).bind fun j => fs[j]? with
    | none => simp only [e] at o1; exact o1.elim
    | some z =>
      simp only [e] at o1
      cases ej : fi c with
      | none => rw [ej] at e; cases e
      | some j =>
        rw [ej] at e
        obtain ⟨w, hw, rw'⟩ := q4.get (show fs[j]? = some z from e)
        obtain ⟨g1, g2, g3⟩ := hf c j ej
        exact ⟨a, _, d, _, w, q1, I1.sub _ _ q2, g1, g2, I1.sub _ _ q3, g3 vs w hw, o1 F1 S1 H1 I1 T1 w [] (by simp) (.sh rw')⟩
  · exact o1.elim

/-! ### raise C(e, ..), C's __init__ keeps its arguments under the names ns, in their order -/
def spInit (C : Addr) (ns : List Str) : Sp := fun vs H Q _ => ∃ (a : Addr) (ys : List V), vs = .ref a :: ys ∧ ys.length = ns.length ∧ H a = some (exo a C none) ∧
  ∀ (d : Addr) (H2 : Hp), H d = none → d ≠ a → H2 a = some (exo a C (some d)) → H2 d = some (exd d (ns.reverse.zip ys.reverse)) → (∀ b, b ≠ a → b ≠ d → H2 b = H b) → Q .non H2
def sRaise (c : Nat) (ms : Ev (List Sl)) : Sv := andS ms fun ss ρ => match shs ss with
  | some ds => if Nat.ble ds.length 1000 then .exc c ds.reverse ρ else .bad
  | none => .bad
theorem Reps.reverse {ds : List D} {vs : List V} (h : Reps Γ S ds vs) : Reps Γ S ds.reverse vs.reverse := by
  induction ds generalizing vs with
  | nil => cases h; exact .nil
  | cons d ds ih =>
    obtain ⟨v, r, rfl, h1, h2⟩ := h
    rw [List.reverse_cons, List.reverse_cons]
    have app : ∀ {as bs : List D} {xs ys : List V}, Reps Γ S as xs → Reps Γ S bs ys → Reps Γ S (as ++ bs) (xs ++ ys) := by
      intro as
      induction as with
      | nil => intro bs xs ys h k; cases h; exact k
      | cons a as ih => intro bs xs ys h k; obtain ⟨x, r, rfl, q1, q2⟩ := h; exact .cons q1 (ih q2 k)
    exact app (ih h2) (.cons h1 .nil)
theorem hdRs_len : ∀ {ss : List Sl} {vs : List V} {ls : List (List Addr)}, HdRs Γ σ S H ss vs ls → ss.length = vs.length
  | [], [], [], _ => rfl
  | _ :: _, _ :: _, _ :: _, h => by simp [hdRs_len h.2]
  | [], [], _ :: _, h => h.elim
  | [], _ :: _, _, h => h.elim
  | _ :: _, [], _, h => h.elim
  | _ :: _, _ :: _, [], h => h.elim
theorem SemS.raiseS {n c : Nat} {t : TA} {ms : Ev (List Sl)} (hn : ArgN n ms) (hl : (Γ.xf c).length = n) (h : SemA Γ W t ms) :
    SemS Γ W A (fun _ σ H => tMkO (Γ.cls c) (spInit (Γ.cls c) (Γ.xf c).reverse) [] t σ H fun cls d H' => W cls d σ H') (sRaise c ms) := by
  intro F ρ σ S H D I o
  have hnl : ∀ ss ρ', ms ρ = .ok ss ρ' → ss.length = n := fun ss ρ' e => hn ρ ss ρ' e
  refine h F ρ σ S H _ I ?_
  unfold sRaise andS at o
  cases e : ms ρ with
  | exc k fs ρ' => simp only [e] at o; exact o.exc_of
  | bad => simp only [e] at o; exact o
  | ok ss ρ1 =>
    have hss := hnl ss ρ1 e
    simp only [e] at o
    intro F1 S1 H1 I1 T1 vs ls hl1 hd1
    cases es : shs ss with
    | none => simp only [es] at o; exact o.elim
    | some ds =>
      simp only [es] at o
      split at o
      · rename_i hz
        have r := shs_ok hd1.r es
        have hlen : vs.length = n := by
          have : ss.length = vs.length := hdRs_len hd1.r
          omega
        refine ⟨by rw [r.length]; exact Nat.le_of_ble_eq_true hz, fun a na => ⟨a, vs, by rw [List.append_nil], by rw [List.length_reverse]; omega, upd_same, fun d H2 hd hda e1 e2 e3 => ⟨rfl, d, _, e1, e2, ?_, ?_⟩⟩⟩
        · rw [upd_ne hda] at hd; exact hd
        · rw [upd_ne hda] at hd
          have eH : upd (L2.del H2 a) d (.xd ((Γ.xf c).reverse.reverse.zip vs.reverse)) = upd H1 d (.xd ((Γ.xf c).zip vs.reverse)) := by
            rw [List.reverse_reverse]
            funext b
            by_cases h1 : b = d
            · rw [h1, upd_same, upd_same]
            · rw [upd_ne h1, upd_ne h1]
              by_cases h2 : b = a
              · rw [h2, del_same, na]
              · rw [del_ne h2, e3 b h2 h1, upd_ne h2]
          rw [eH]
          have dF : d ∉ F1.flatten := fun z => I1.there d z hd
          have dS : S1 d = none := free_sub I1.sub hd
          refine o _ _ σ F1 S1 _ (I1.updD dF dS) (T1.trans ⟨Ex.refl _, fun b u hb _ => by rw [upd_ne (ne_of_none hb hd)]; exact hb, fun b hb => .inl hb, fun b hb => .inl hb⟩) .refl (fun d' ed => ?_) ⟨rfl, d, vs.reverse, rfl, upd_same, r.reverse, dF, dS⟩
          cases ed
          exact T1.back hd
      · exact o.elim
end
end PM

set_option Elab.async false
set_option linter.all false
set_option maxRecDepth 100000
set_option maxHeartbeats 4000000
/-! PM, part l: walk and meaning in one: the rules that a body's proof is printed with. -/
namespace PM
open PySem PySem.Spec PyProof.Rows L2

section
variable (Γ : Cfg) (W : WX) (A : Nat → Bool)
def tE (m : Ev Sl) : TE := fun σ H Q => ∃ F ρ S, FI Γ F ρ σ S H ∧ Out Γ W (pE Γ σ Q) F S H σ (m ρ)
def tT (m : Ev Bool) : TT := fun σ H Q => ∃ F ρ S, FI Γ F ρ σ S H ∧ Out Γ W (pT Q) F S H σ (m ρ)
def tAr (m : Ev (List Sl)) : TA := fun σ H Q => ∃ F ρ S, FI Γ F ρ σ S H ∧ Out Γ W (pA Γ σ Q) F S H σ (m ρ)
def tIt (m : Ev (List D)) : TI := fun σ H R => ∃ F ρ S, FI Γ F ρ σ S H ∧ Out Γ W (pI Γ R) F S H σ (m ρ)
def tOp' (m : Ev (Option Int)) : TO := fun σ H Q => ∃ F ρ S, FI Γ F ρ σ S H ∧ Out Γ W (pO Q) F S H σ (m ρ)
def tSt (m : Sv) : TS := fun D σ H => ∃ F ρ S, FI Γ F ρ σ S H ∧ OutS Γ W A F S H σ D (m ρ)
def tG (f : Gt) : TG := fun v σ H Q => ∃ F ρ S d ρ', FI Γ F ρ σ S H ∧ Rep Γ S d v ∧ f d ρ = some ρ' ∧ ∀ σ' F', FI Γ F' ρ' σ' S H → (∀ a ∈ F'.flatten, a ∈ F.flatten) → Agree A σ σ' → Q σ' H
def tGs (f : List D → Env → Option Env) : TGs := fun vs σ H Q => ∃ F ρ S ds ρ', FI Γ F ρ σ S H ∧ Reps Γ S ds vs ∧ f ds ρ = some ρ' ∧ ∀ σ' F', FI Γ F' ρ' σ' S H → (∀ a ∈ F'.flatten, a ∈ F.flatten) → Agree A σ σ' → Q σ' H
abbrev EE (X : Cx) (e : Expr) (m : Ev Sl) : Prop := PE X e (tE Γ W m)
abbrev ET (X : Cx) (e : Expr) (m : Ev Bool) : Prop := PT X e (tT Γ W m)
abbrev EW (X : Cx) (e : Expr) (m : Ev Bool) : Prop := PW X e (tT Γ W m)
abbrev EA (X : Cx) (es : List Expr) (m : Ev (List Sl)) : Prop := PA X es (tAr Γ W m)
abbrev EI (X : Cx) (tg it : Expr) (m : Ev (List D)) : Prop := PI X tg it (tIt Γ W m)
abbrev EO (X : Cx) (e : Option Expr) (m : Ev (Option Int)) : Prop := PO X e (tOp' Γ W m)
abbrev ES (X : Cx) (st : Stmt) (m : Sv) : Prop := PS X st (tSt Γ W A m)
abbrev ESs (X : Cx) (st : List Stmt) (m : Sv) : Prop := PSs X st (tSt Γ W A m)
abbrev EG (X : Cx) (tg : Expr) (f : Gt) : Prop := PG X tg (tG Γ A f)
abbrev EGs (X : Cx) (tg : List Expr) (f : List D → Env → Option Env) : Prop := PGs X tg (tGs Γ A f)
abbrev EPs (X : Cx) (es : List Expr) (m : Ev Bool) : Prop := PTs X es (tT Γ W m)
end
section
variable {Γ : Cfg} {W : WX} {A : Nat → Bool} {X : Cx} {a b c e : Expr} {es rest : List Expr} {m m1 m2 m3 : Ev Sl} {mc mc2 : Ev Bool} {ms : Ev (List Sl)} {pos p p2 : Pos} {st : Stmt} {sts : List Stmt} {s1 s2 : Sv} {t : TE} {tt : TT} {ta : TA} {ti : TI} {ts : TS}
theorem Sem.self : Sem Γ W (tE Γ W m) m := fun F ρ _ S _ _ I o => ⟨F, ρ, S, I, o⟩
theorem SemT.self : SemT Γ W (tT Γ W mc) mc := fun F ρ _ S _ _ I o => ⟨F, ρ, S, I, o⟩
theorem SemA.self : SemA Γ W (tAr Γ W ms) ms := fun F ρ _ S _ _ I o => ⟨F, ρ, S, I, o⟩
theorem SemI.self {mi : Ev (List D)} : SemI Γ W (tIt Γ W mi) mi := fun F ρ _ S _ _ I o => ⟨F, ρ, S, I, o⟩
theorem SemO.self {mo : Ev (Option Int)} : SemO Γ W (tOp' Γ W mo) mo := fun F ρ _ S _ _ I o => ⟨F, ρ, S, I, o⟩
theorem SemS.self : SemS Γ W A (tSt Γ W A s1) s1 := fun F ρ _ S _ _ I o => ⟨F, ρ, S, I, o⟩
theorem SemG.self {f : Gt} : SemG Γ A (tG Γ A f) f := fun F ρ _ S _ _ d ρ' _ I r h q => ⟨F, ρ, S, d, ρ', I, r, h, q⟩
theorem SemGs.self {f : List D → Env → Option Env} : SemGs Γ A (tGs Γ A f) f := fun F ρ _ S _ _ d ρ' _ I r h q => ⟨F, ρ, S, d, ρ', I, r, h, q⟩
theorem EE.of (h : PE X e t) (s : Sem Γ W t m) : EE Γ W X e m := ⟨fun pins st σ H Q I ⟨F, ρ, S, J, o⟩ => h.run pins st σ H Q I (s F ρ σ S H Q J o)⟩
theorem ET.of (h : PT X e tt) (s : SemT Γ W tt mc) : ET Γ W X e mc := ⟨fun pins st σ H Q I ⟨F, ρ, S, J, o⟩ => h.run pins st σ H Q I (s F ρ σ S H Q J o)⟩
theorem EW.of (h : PW X e tt) (s : SemT Γ W tt mc) : EW Γ W X e mc := ⟨fun wh pins st σ H Q I ⟨F, ρ, S, J, o⟩ => h.run wh pins st σ H Q I (s F ρ σ S H Q J o)⟩
theorem EA.of (h : PA X es ta) (s : SemA Γ W ta ms) : EA Γ W X es ms := ⟨fun ps pins st σ H Q I ⟨F, ρ, S, J, o⟩ => h.run ps pins st σ H Q I (s F ρ σ S H Q J o)⟩
theorem EI.of {mi : Ev (List D)} (h : PI X a e ti) (s : SemI Γ W ti mi) : EI Γ W X a e mi := ⟨fun pins st σ H Q I ⟨F, ρ, S, J, o⟩ => h.run pins st σ H Q I (s F ρ σ S H Q J o)⟩
theorem ES.of (h : PS X st ts) (s : SemS Γ W A ts s1) : ES Γ W A X st s1 := ⟨fun pins st σ H Q I ⟨F, ρ, S, J, o⟩ => h.run pins st σ H Q I (s F ρ σ S H Q J o)⟩
theorem ESs.of (h : PSs X sts ts) (s : SemS Γ W A ts s1) : ESs Γ W A X sts s1 := ⟨fun pins st σ H Q I ⟨F, ρ, S, J, o⟩ => h.run pins st σ H Q I (s F ρ σ S H Q J o)⟩
theorem EG.of {g : TG} {f : Gt} (h : PG X e g) (s : SemG Γ A g f) : EG Γ A X e f := ⟨fun pins st σ H v u Q I r ⟨F, ρ, S, d, ρ', J, rr, hf, q⟩ => h.run pins st σ H v u Q I r (s F ρ σ S H v d ρ' Q J rr hf q)⟩
theorem EGs.of {g : TGs} {f : List D → Env → Option Env} (h : PGs X es g) (s : SemGs Γ A g f) : EGs Γ A X es f := ⟨fun pins st σ H v u Q I r ⟨F, ρ, S, d, ρ', J, rr, hf, q⟩ => h.run pins st σ H v u Q I r (s F ρ σ S H v d ρ' Q J rr hf q)⟩

/-! ### expressions -/
theorem ev (i : Nat) {x : Str} (hN : X.N[i]? = some x := by rfl) (hv : Vis X.env.scope x := by first | exact Or.inl rfl | exact Or.inr (Or.inl rfl) | exact Or.inr (Or.inr rfl)) (hd : (x == ("__debug__" : Str)) = false := by decide) (hcd : (x == ("__classdict__" : Str)) = false := by decide) : EE Γ W X (.Name x pos) (eVar i) := EE.of (pv i hN hv hd hcd) Sem.var
theorem eI {i : Int} {j : Nat} : EE Γ W X (.Constant (.int i) j pos) (eC (.int i)) := EE.of pe_int Sem.int
theorem eB {k : Bool} {j : Nat} : EE Γ W X (.Constant (.bool k) j pos) (eC (.bl k)) := EE.of pe_bl Sem.bl
theorem eN {j : Nat} : EE Γ W X (.Constant .none j pos) (eC .non) := EE.of pe_non Sem.non
theorem eS (l : List Nat) {x : Str} {j : Nat} (h : x = tx l := by rfl) : EE Γ W X (.Constant (.str x) j pos) (eC (.str l)) := EE.of pe_str (Sem.str h)
theorem eGl {x : Str} {v : V} {d : D} {u : Value} (hm : X.mg x = some u) (r : RelV v u) (hd : ∀ S, Rep Γ S d v) (hg : Gl X x := by rfl) (hdb : (x == ("__debug__" : Str)) = false := by decide) : EE Γ W X (.Name x pos) (eC d) := EE.of (pe_glob hg hm r hdb) (Sem.c hd)
theorem eBin {op : Operator} {r : R2} {f : D → D → Option Sl} (ho : OpR X (binaryOp op) r) (hf : OpD Γ r f) (h1 : EE Γ W X a m1) (h2 : EE Γ W X b m2) : EE Γ W X (.BinOp a op b pos) (eOp f m1 m2) := EE.of (pe_op ho h1 h2) (Sem.op hf Sem.self Sem.self)
theorem eNeg (h1 : EE Γ W X a m1) : EE Γ W X (.UnaryOp .USub a pos) (eUn negD m1) := EE.of (pe_un un_neg h1) (Sem.un negD_ok Sem.self)
theorem eCmp {op : CmpOp} {r : R2} {f : D → D → Option Sl} (ho : OpR X (compareOp op) r) (hf : OpD Γ r f) (h1 : EE Γ W X a m1) (h2 : EE Γ W X b m2) (hm : behindInMarks op b = false := by first | exact nomark _ | with_unfolding_all rfl) : EE Γ W X (.Compare a [op] [b] pos) (eOp f m1 m2) := EE.of (pe_cmpR ho h1 h2 hm) (Sem.op hf Sem.self Sem.self)
theorem eCmpT {op : CmpOp} {r : R2} {f : D → D → Option Sl} (ho : OpR X (compareOp op) r) (hf : OpD Γ r f) (h1 : EE Γ W X a m1) (h2 : EE Γ W X b m2) (hm : behindInMarks op b = false := by first | exact nomark _ | with_unfolding_all rfl) : ET Γ W X (.Compare a [op] [b] pos) (eTest (eOp f m1 m2)) := ET.of (pt_cmpR ho h1 h2 hm) (Sem.test (Sem.op hf Sem.self Sem.self))
theorem eChnT {op op' : CmpOp} {r r' : R2} {f g : D → D → Option Bool} (ho : OpR X (compareOp op) r) (ho' : OpR X (compareOp op') r') (hf : BlD Γ r f) (hg : BlD Γ r' g) (h1 : EE Γ W X a m1) (h2 : EE Γ W X b m2) (h3 : EE Γ W X c m3) (hm : lastMarks [op, op'] [b, c] = false := by with_unfolding_all rfl) :
    ET Γ W X (.Compare a [op, op'] [b, c] pos) (eChn f g m1 m2 m3) := ET.of (pt_chain ho ho' h1 h2 h3 hm) (Sem.chain hf hg Sem.self Sem.self Sem.self)
/-- a test by a truth value -/
theorem eV (h : EE Γ W X e m) (he : ∀ whole, isTrue e X.env whole = (do let v ← whole; standAt e.pos; holding [v] (truthy v)) := by intro _; rfl) : ET Γ W X e (eTest m) := ET.of (pt_val h he) (Sem.tB Sem.self)
/-- a test by any value's truth -/
theorem eTr (hK : X.K = Γ.K) (h : EE Γ W X e m) (he : ∀ whole, isTrue e X.env whole = (do let v ← whole; standAt e.pos; holding [v] (truthy v)) := by intro _; rfl) : ET Γ W X e (eTru m) := by
  have q := pt_truth h he
  rw [hK] at q
  exact ET.of q (Sem.tru Sem.self)
theorem eNotT (h : ET Γ W X a mc) : ET Γ W X (.UnaryOp .Not a pos) (eNot mc) := ET.of (pt_not h) (SemT.not SemT.self)
theorem PT.ofW {X : Cx} {e : Expr} {t : TT} (h : PW X e t) : PT X e t := ⟨fun pins s σ H Q I q => h.run _ pins s σ H Q I q⟩
theorem eAnd1 (h : ET Γ W X a mc) : EW Γ W X (.BoolOp .And [a] pos) mc := pw_and1 h
theorem eOr1 (h : ET Γ W X a mc) : EW Γ W X (.BoolOp .Or [a] pos) mc := pw_or1 h
theorem eAnd2 (h : ET Γ W X a mc) (h2 : EW Γ W X (.BoolOp .And (b :: rest) pos) mc2) : EW Γ W X (.BoolOp .And (a :: b :: rest) pos) (eAnd mc mc2) := EW.of (pw_and h h2) (SemT.and SemT.self SemT.self)
theorem eOr2 (h : ET Γ W X a mc) (h2 : EW Γ W X (.BoolOp .Or (b :: rest) pos) mc2) : EW Γ W X (.BoolOp .Or (a :: b :: rest) pos) (eOr mc mc2) := EW.of (pw_or h h2) (SemT.or SemT.self SemT.self)
theorem eW (h : EW Γ W X e mc) : ET Γ W X e mc := PT.ofW h
theorem eOne {op : BoolOp} (h : EE Γ W X a m) : EE Γ W X (.BoolOp op [a] pos) m := pe_one h
theorem eAnds (h : EE Γ W X a m) (h2 : EE Γ W X (.BoolOp .And (b :: rest) pos) m2) : EE Γ W X (.BoolOp .And (a :: b :: rest) pos) (eAndV m m2) := EE.of (pe_and h h2) (Sem.andV Sem.self Sem.self)
theorem eOrs (h : EE Γ W X a m) (h2 : EE Γ W X (.BoolOp .Or (b :: rest) pos) m2) : EE Γ W X (.BoolOp .Or (a :: b :: rest) pos) (eOrV m m2) := EE.of (pe_or h h2) (Sem.orV Sem.self Sem.self)
theorem eOrsT (hK : X.K = Γ.K) (h : EE Γ W X a m) (h2 : EE Γ W X (.BoolOp .Or (b :: rest) pos) m2) : EE Γ W X (.BoolOp .Or (a :: b :: rest) pos) (eOrT m m2) := by
  have q := pe_orT h h2
  rw [hK] at q
  exact EE.of q (Sem.orT Sem.self Sem.self)
theorem eNots (h : EE Γ W X a m) : EE Γ W X (.UnaryOp .Not a pos) (eNotV m) := EE.of (pe_not h) (Sem.notV Sem.self)
theorem eIfs (h : ET Γ W X c mc) (h1 : EE Γ W X a m1) (h2 : EE Γ W X b m2) : EE Γ W X (.IfExp c a b pos) (eIf mc m1 m2) := EE.of (pe_ifExp h h1 h2) (Sem.ifE SemT.self Sem.self Sem.self)
theorem aN : EA Γ W X [] eNil := EA.of pa_nil SemA.nil
theorem aC (h : EE Γ W X e m) (h2 : EA Γ W X es ms) (hs : starEach (e :: es) X.env = (false, eval e X.env) :: starEach es X.env := by rfl) : EA Γ W X (e :: es) (eCons m ms) := EA.of (pa_cons h h2 hs) (SemA.cons Sem.self SemA.self)
theorem eTu {x1 : Nat} (h : EA Γ W X es ms) : EE Γ W X (.Tuple es x1 pos) (eTup ms) := EE.of (pe_tup h) (Sem.tup SemA.self)
theorem eLi (h : EA Γ W X es ms) : EE Γ W X (.List es pos) (eLst ms) := EE.of (pe_lst h) (Sem.lst SemA.self)
theorem eIx (hK : X.K = Γ.K) (h1 : EE Γ W X a m1) (h2 : EE Γ W X b m2) (hs : PlainIx b := by exact fun _ _ => rfl) : EE Γ W X (.Subscript a b pos) (eOp ixD m1 m2) := by
  have q := pe_ix ix_seq h1 h2 hs (pos := pos)
  rw [hK] at q
  exact EE.of q (Sem.op ixD_ok Sem.self Sem.self)
theorem oN : EO Γ W X none eoN := ⟨fun pins st σ H Q I ⟨F, ρ, S, J, o⟩ => po_none.run pins st σ H Q I (SemO.no F ρ σ S H Q J o)⟩
theorem oS (h : EE Γ W X e m) : EO Γ W X (some e) (eoS m) := ⟨fun pins st σ H Q I ⟨F, ρ, S, J, o⟩ => (po_some h).run pins st σ H Q I (SemO.part Sem.self F ρ σ S H Q J o)⟩
theorem eSc {lo hi : Option Expr} {ml mh : Ev (Option Int)} (hK : X.K = Γ.K) (h : EE Γ W X e m) (h1 : EO Γ W X lo ml) (h2 : EO Γ W X hi mh) : EE Γ W X (.Subscript e (.Slice lo hi none p2) pos) (eSl m ml mh) := by
  have q := pe_slice (X := X) sl_X h h1 h2 (pos := pos) (p2 := p2)
  rw [hK] at q
  exact EE.of q (Sem.sl Sem.self SemO.self SemO.self)
theorem eF {x : Str} {id : String} {r : List V → Hp → VK → Prop} {f : List D → Option Sl} (hc : CallR X (.builtin id) r) (hf : CbD Γ r f) (hm : X.mg x = none) (ha : EA Γ W X (e :: es) ms) (hg : Gl X x := by rfl) (hv : bootBuiltins x = some (.builtin id) := by decide +kernel) (hn : x ≠ "__name__" := by decide) (hdb : (x == ("__debug__" : Str)) = false := by decide)
    (he : starEach (e :: es) X.env = (false, eval e X.env) :: starEach es X.env := by rfl) (hpl : (backTo pos (starEach es X.env)).any (·.1) = false := by rfl) : EE Γ W X (.Call (.Name x p) (e :: es) [] pos) (eCB f ms) := EE.of (pe_callB hc hg hm hv ha hn hdb he hpl) (Sem.cb hf SemA.self)
theorem eFT {x : Str} {T : String} {r : List V → Hp → VK → Prop} {f : List D → Option Sl} (hc : CallR X (.type T) r) (hf : CbD Γ r f) (hm : X.mg x = none) (ha : EA Γ W X (e :: es) ms) (hg : Gl X x := by rfl) (hv : bootBuiltins x = some (.type T) := by decide +kernel) (hn : x ≠ "__name__" := by decide) (hdb : (x == ("__debug__" : Str)) = false := by decide)
    (he : starEach (e :: es) X.env = (false, eval e X.env) :: starEach es X.env := by rfl) (hpl : (backTo pos (starEach es X.env)).any (·.1) = false := by rfl) : EE Γ W X (.Call (.Name x p) (e :: es) [] pos) (eCB f ms) := EE.of (pe_callTy hc hg hm hv ha hn hdb he hpl) (Sem.cb hf SemA.self)
/-- a call of a def -/
theorem eCl {x : Str} {fn : Fn} {k n : Nat} {f : Addr} {fd : FuncData} {ps : List Str} (F : FnOk X.prog X.w X.K X.mg X.base (L2.CX X.prog X.w) k f fd ps (spOf Γ n fn)) (hr : Room k X.A) (hm : X.mg x = some (.ref f)) (hk : PySem.W.keepIn X.K (.ref f) = true) (hb : Binds X.K fd ps []) (tk : Takes X W) (hn : ArgN n ms) (ha : EA Γ W X (e :: es) ms)
    (hg : Gl X x := by rfl) (hdb : (x == ("__debug__" : Str)) = false := by decide) (he : starEach (e :: es) X.env = (false, eval e X.env) :: starEach es X.env := by rfl) (hpl : (backTo pos (starEach es X.env)).any (·.1) = false := by rfl) :
    EE Γ W X (.Call (.Name x p) (e :: es) [] pos) (eCall fn ms) := EE.of (pe_callS F hr hg hm hk hb (fun σ => passAt tk σ) ha hdb he hpl) (Sem.call (E := WE W) (fun _ _ _ _ h => h) hn SemA.self)
/-- [e for t in it] -/
theorem eLc {tg iter : Expr} {ifs : List Expr} {scope : Scope} {own : List (Str × Nat)} {it : Ev (List D)} {f : Gt} (own2 : List Nat) (hc : X.calm = true) (hN : X.N.Nodup) (ok : BlkOk X.N X.env.scope scope own) (ho : own.map (·.2) = own2) (hi : EI Γ W X tg iter it)
    (hg : ∀ (s : Shared) (H : Hp) (C : Addr) (cl : List (Str × Addr)) (fp : List Addr), EG Γ (fun i => own2.contains i) (X.blk s H scope (compEnvC scope cl C X.env) fp) tg f) (ht : ∀ (s : Shared) (H : Hp) (C : Addr) (cl : List (Str × Addr)) (fp : List Addr), EPs Γ W0 (X.blk s H scope (compEnvC scope cl C X.env) fp) ifs mc)
    (he : ∀ (s : Shared) (H : Hp) (C : Addr) (cl : List (Str × Addr)) (fp : List Addr), EE Γ W0 (X.blk s H scope (compEnvC scope cl C X.env) fp) e m) (hs : ∀ x, foldedSetIterable iter X.env x = pure x := by intro _; rfl) :
    EE Γ W X (.ListComp e [⟨tg, iter, ifs, 0⟩] scope pos) (eComp it own2 f mc m) := by
  subst ho
  exact EE.of (pe_lc hc hN hi ok hg ht he hs) (Sem.comp SemI.self SemG.self SemT.self Sem.self)
theorem tN : EPs Γ W X [] eYes := ⟨fun pins st σ H Q I ⟨F, ρ, S, J, o⟩ => pts_nil.run pins st σ H Q I (SemT.yes F ρ σ S H Q J o)⟩
theorem tO1 (h : ET Γ W X c mc) : EPs Γ W X [c] mc := pts_one h
theorem eSpl {o : Expr} {apos : Pos} (h1 : EE Γ W X o m1) (h2 : EE Γ W X e m2) (hs : starEach [e] X.env = [(false, eval e X.env)] := by rfl) (hbase : attributeBase o "split" X.env (eval o X.env) = eval o X.env := by rfl) (hline : (apos.endLine == pos.line) = true := by rfl) :
    EE Γ W X (.Call (.Attribute o "split" apos) [e] [] pos) (eSplit m1 m2) := EE.of (pe_split h1 h2 hs hbase hline) (Sem.split Sem.self Sem.self)
theorem eJn {o : Expr} {apos : Pos} (hK : X.K = Γ.K) (h1 : EE Γ W X o m1) (h2 : EE Γ W X e m2) (hs : starEach [e] X.env = [(false, eval e X.env)] := by rfl) (hbase : attributeBase o "join" X.env (eval o X.env) = eval o X.env := by rfl) (hline : (apos.endLine == pos.line) = true := by rfl) :
    EE Γ W X (.Call (.Attribute o "join" apos) [e] [] pos) (eJoin m1 m2) := by
  have q := pe_join h1 h2 hs hbase hline
  rw [hK] at q
  exact EE.of q (Sem.join Sem.self Sem.self)
theorem eXfl {n : Str} {fi : Nat → Option Nat} (hK : X.K = Γ.K) (hf : ∀ c j, fi c = some j → XfC Γ.K (Γ.cls c) ∧ PySem.W.findIn Γ.K (.ref (Γ.cls c)) n = some none ∧ ∀ (vs : List V) v, vs[j]? = some v → ((Γ.xf c).zip vs).lookup n = some v) (h : EE Γ W X e m) (hb : attributeBase e n X.env (eval e X.env) = eval e X.env := by rfl) : EE Γ W X (.Attribute e n pos) (eXf fi m) := by
  have q := pe_xfT h hb (pos := pos)
  rw [hK] at q
  exact EE.of q (Sem.xf hf Sem.self)
theorem eIsK {n : Str} (k : Nat) (hk : k < 7) (hK : X.K = Γ.K) (hm : X.mg "isinstance" = none) (h : EE Γ W X e m) (ht : PE X (.Name n p2) (tC (.ty (tyN k)))) (hg : Gl X "isinstance" := by rfl)
    (he : starEach [e, .Name n p2] X.env = (false, eval e X.env) :: starEach [.Name n p2] X.env := by rfl) (hpl : (backTo pos (starEach [.Name n p2] X.env)).any (·.1) = false := by rfl) (h2 : starEach [.Name n p2] X.env = (false, eval (.Name n p2) X.env) :: starEach [] X.env := by rfl) :
    EE Γ W X (.Call (.Name "isinstance" p) [e, .Name n p2] [] pos) (eIsi [k] m) := by
  have q := pe_callB (p := p) (pos := pos) (X := X) call_isi hg hm (by decide +kernel) (pa_cons h (pa_cons ht pa_nil h2) he) (by decide) (by decide) he hpl
  rw [hK] at q
  exact EE.of q (Sem.isi hk Sem.self)
theorem eIsT (ks : List Nat) (hks : ∀ k ∈ ks, k < 7) (hl : ks.length ≤ 100) {tt : Expr} (hK : X.K = Γ.K) (hm : X.mg "isinstance" = none) (h : EE Γ W X e m) (ht : PE X tt (tTup (tTys ks))) (hg : Gl X "isinstance" := by rfl)
    (he : starEach [e, tt] X.env = (false, eval e X.env) :: starEach [tt] X.env := by rfl) (hpl : (backTo pos (starEach [tt] X.env)).any (·.1) = false := by rfl) (h2 : starEach [tt] X.env = (false, eval tt X.env) :: starEach [] X.env := by rfl) :
    EE Γ W X (.Call (.Name "isinstance" p) [e, tt] [] pos) (eIsi ks m) := by
  have q := pe_callB (p := p) (pos := pos) (X := X) call_isiT hg hm (by decide +kernel) (pa_cons h (pa_cons ht pa_nil h2) he) (by decide) (by decide) he hpl
  rw [hK] at q
  exact EE.of q (Sem.isiT hks hl Sem.self)
/-- xs.pop(e) -/
theorem ePop (i : Nat) {x : Str} {px apos : Pos} (hK : X.K = Γ.K) (h : EE Γ W X e m) (hN : X.N[i]? = some x := by rfl) (hv : Vis X.env.scope x := by first | exact Or.inl rfl | exact Or.inr (Or.inl rfl) | exact Or.inr (Or.inr rfl)) (hd : (x == ("__debug__" : Str)) = false := by decide) (hcd : (x == ("__classdict__" : Str)) = false := by decide)
    (hbase : attributeBase (.Name x px) "pop" X.env (eval (.Name x px) X.env) = eval (.Name x px) X.env := by rfl)
    (hfew : ((backTo pos (starEach [e] X.env)).all (fun x => !x.1) && (backToKw pos (keywordEach [] X.env)).all (fun x => x.1.isSome)
      && decide (([e] : List Expr).length + ([] : List Keyword).length + (if ([] : List Keyword).isEmpty then 0 else 1) < 30)) = true := by rfl)
    (hline : (apos.endLine == pos.line) = true := by rfl) (hs : starEach [e] X.env = (false, eval e X.env) :: starEach [] X.env := by rfl) (hplain : (backTo pos (starEach [] X.env)).any (·.1) = false := by rfl) :
    EE Γ W X (.Call (.Attribute (.Name x px) "pop" apos) [e] [] pos) (ePopAt i m) := by
  have q := pe_bm (X := X) PySem.F.plainAttrs_list PySem.F.slot_list_pop PySem.F.type_list_pop mt_popAt (pv i hN hv hd hcd) (pa_cons h pa_nil hs) hbase hfew hline hs hplain
  rw [hK] at q
  exact EE.of q (Sem.popAt Sem.self)

/-! ### what is walked -/
theorem iSq {tg l : Expr} (hK : X.K = Γ.K) (h : EE Γ W X l m) : EI Γ W X tg l (eIt itemsD m) := by
  have q := pi_seq (tg := tg) h
  rw [hK] at q
  exact EI.of q (SemI.seq Sem.self)
theorem iRg {tg : Expr} (hm : X.mg "range" = none) (h : EE Γ W X a m) (hg : Gl X "range" := by rfl) (hs : starEach [a] X.env = [(false, eval a X.env)] := by rfl) (h2 : starEach [a] X.env = (false, eval a X.env) :: starEach [] X.env := by rfl) : EI Γ W X tg (.Call (.Name "range" p) [a] [] pos) (eIt rng1 m) :=
  EI.of (pi_range1 hg hm (pa_cons h pa_nil h2) hs) (SemI.rng1 Sem.self)
theorem iEn {elts : List Expr} {kk : Nat} {tpos : Pos} (hK : X.K = Γ.K) (hm : X.mg "enumerate" = none) (h : EE Γ W X e m) (hg : Gl X "enumerate" := by rfl) (hs : starEach [e] X.env = [(false, eval e X.env)] := by rfl) (h2 : starEach [e] X.env = (false, eval e X.env) :: starEach [] X.env := by rfl) :
    EI Γ W X (.Tuple elts kk tpos) (.Call (.Name "enumerate" p) [e] [] pos) (eIt enumD m) := by
  have q := pi_enum (p := p) (pos := pos) (tpos := tpos) (elts := elts) (kk := kk) hg hm (pa_cons h pa_nil h2) hs
  rw [hK] at q
  exact EI.of q (SemI.enum Sem.self)
theorem iZp {elts : List Expr} {kk : Nat} {tpos : Pos} (hK : X.K = Γ.K) (hm : X.mg "zip" = none) (h1 : EE Γ W X a m1) (h2 : EE Γ W X b m2) (hg : Gl X "zip" := by rfl) (hs : starEach [a, b] X.env = (false, eval a X.env) :: starEach [b] X.env := by rfl) (hpl : (backTo pos (starEach [b] X.env)).any (·.1) = false := by rfl) (hs2 : starEach [b] X.env = (false, eval b X.env) :: starEach [] X.env := by rfl) :
    EI Γ W X (.Tuple elts kk tpos) (.Call (.Name "zip" p) [a, b] [] pos) (eZip m1 m2) := by
  have q := RZ.pi_zipA (p := p) (pos := pos) (tpos := tpos) (elts := elts) (kk := kk) hg hm (pa_cons h1 (pa_cons h2 pa_nil hs2) hs) hs hpl
  rw [hK] at q
  exact EI.of q (SemI.zip Sem.self Sem.self)

/-! ### targets -/
theorem gN (i : Nat) {x : Str} (hN : X.N.Nodup) (hA : A i = true) (hi : X.N[i]? = some x := by rfl) (hx : Loc X.env.scope x := by first | exact Or.inl rfl | exact Or.inr rfl) (hf : X.fn x = true ∨ X.env.scope.names.lookup x = some .local := by first | exact .inl rfl | exact .inr rfl) : EG Γ A X (.Name x pos) (gtN i) := EG.of (pg_name hN hi hx hf) (SemG.name hA)
theorem gsN : EGs Γ A X [] gtsN := EGs.of pgs_nil SemGs.nil
theorem gsC {f : Gt} {fs : List D → Env → Option Env} (h1 : EG Γ A X e f) (h2 : EGs Γ A X es fs) (hs : (assignEach (e :: es) X.env).map (·.2) = assign e X.env :: (assignEach es X.env).map (·.2) := by rfl) : EGs Γ A X (e :: es) (gtsC f fs) := EGs.of (pgs_cons h1 h2 hs) (SemGs.cons SemG.self SemGs.self)
theorem gT (n : Nat) {k : Nat} {fs : List D → Env → Option Env} (hK : X.K = Γ.K) (hc : X.calm = true) (h : EGs Γ A X es fs) (hn : (assignEach es X.env).length = n := by rfl) (hst : (assignEach es X.env).findIdx? (·.1) = none := by rfl) : EG Γ A X (.Tuple es k pos) (gtT n fs) := by
  have q := pg_tup (pos := pos) (k := k) hc h hn hst
  rw [hK] at q
  exact EG.of q (SemG.tup SemGs.self)

/-! ### statements -/
theorem sN : ESs Γ W A X [] sNext := ESs.of pss_nil SemS.next
theorem sC (h1 : ES Γ W A X st s1) (h2 : ESs Γ W A X sts s2) : ESs Γ W A X (st :: sts) (sSeq s1 s2) := ESs.of (pss_cons h1 h2) (SemS.seq SemS.self SemS.self)
theorem s1' (h1 : ES Γ W A X st s1) : ESs Γ W A X [st] s1 := pss_one h1
theorem sPs : ES Γ W A X (.Pass pos) sNext := ES.of ps_pass SemS.next
theorem sBk : ES Γ W A X (.Break pos) PM.sBrk := ES.of ps_break SemS.brk
theorem sCn : ES Γ W A X (.Continue pos) PM.sCont := ES.of ps_continue SemS.cont
theorem sR (h : EE Γ W X e m) : ES Γ W A X (.Return (some e) pos) (PM.sRet m) := ES.of (ps_ret h) (Sem.ret Sem.self)
theorem sRN : ES Γ W A X (.Return none pos) sRetN := ES.of ps_retN SemS.retN
theorem sX (h : EE Γ W X e m) (hs : swapsWith e none pos.line X.env = pure false := by rfl) : ES Γ W A X (.Expr e pos) (PM.sDrop m) := ES.of (ps_expr h hs) (Sem.drop Sem.self)
theorem sI {x1 x2 : List Stmt} (hc : ET Γ W X c mc) (h1 : ESs Γ W A X x1 s1) (h2 : ESs Γ W A X x2 s2) : ES Γ W A X (.If c x1 x2 pos) (PM.sIf mc s1 s2) := ES.of (ps_if hc h1 h2) (SemS.ifS SemT.self SemS.self SemS.self)
theorem sA (i : Nat) {x : Str} {px : Pos} (hN : X.N.Nodup) (hA : A i = true) (h : EE Γ W X e m) (hi : X.N[i]? = some x := by rfl) (hx : Loc X.env.scope x := by first | exact Or.inl rfl | exact Or.inr rfl) (hs : swapsWith e (some (.Name x px)) pos.line X.env = pure false := by rfl) (hf : X.fn x = true ∨ X.env.scope.names.lookup x = some .local := by first | exact .inl rfl | exact .inr rfl) :
    ES Γ W A X (.Assign [.Name x px] e pos) (PM.sAsg i m) := ES.of (ps_set hN hi hx h hs hf) (Sem.asg hA Sem.self)
theorem sAg {tg : Expr} {f : Gt} (h : EE Γ W X e m) (hg : EG Γ A X tg f) (hs : swapsWithSole [tg] e pos.line X.env = pure false := by rfl) (hw : swappedStores [tg] e X.env = pure none := by rfl) (h1 : (assignEach [tg] X.env).map (·.2) = [assign tg X.env] := by rfl) : ES Γ W A X (.Assign [tg] e pos) (PM.sAsgG f m) := ES.of (ps_asg h hg hs hw h1) (Sem.asgG SemG.self Sem.self)
theorem sAu (i : Nat) {x : Str} {px : Pos} {op : Operator} {ti : TIp} {f : D → D → Option Sl} (hN : X.N.Nodup) (hA : A i = true) (hf : OpD Γ ti f) (h : EE Γ W X e m) (ho : PIp X op ti) (hi : X.N[i]? = some x := by rfl) (hx : Loc X.env.scope x := by first | exact Or.inl rfl | exact Or.inr rfl) (hfn : X.fn x = true ∨ X.env.scope.names.lookup x = some .local := by first | exact .inl rfl | exact .inr rfl) :
    ES Γ W A X (.AugAssign (.Name x px) op e pos) (PM.sAug i f m) := ES.of (ps_aug hN hi hx h ho hfn) (Sem.aug hA hf Sem.self)
theorem sP2 (i j : Nat) {x y : Str} {px py pt pt2 : Pos} {kt k2 : Nat} (hc : X.calm = true) (hN : X.N.Nodup) (hAi : A i = true) (hAj : A j = true) (ha : EA Γ W X [a, b] ms) (hi : X.N[i]? = some x := by rfl) (hj : X.N[j]? = some y := by rfl) (hij : i ≠ j := by decide)
    (hx : X.env.scope.names.lookup x = some .local := by rfl) (hy : X.env.scope.names.lookup y = some .local := by rfl) (hw : swappedStores [.Tuple [.Name x px, .Name y py] kt pt] (.Tuple [a, b] k2 pt2) X.env = pure (some [x, y]) := by rfl)
    (hs : swapsWithSole [.Tuple [.Name x px, .Name y py] kt pt] (.Tuple [a, b] k2 pt2) pos.line X.env = pure false := by rfl) : ES Γ W A X (.Assign [.Tuple [.Name x px, .Name y py] kt pt] (.Tuple [a, b] k2 pt2) pos) (sPar [i, j] ms) :=
  ES.of (ps_par hc hN hi hj hij hx hy ha hw hs) (Sem.par2 hAi hAj SemA.self)
theorem sFo {tg iter : Expr} {body : List Stmt} {it : Ev (List D)} {f : Gt} (hp : PassesOwn (model X.prog X.w) X.A X.env X.xe) (hc : X.calm = true) (hi : EI Γ W X tg iter it) (hg : EG Γ A X tg f) (hb : ESs Γ W A X body s1) (hs : ∀ x, foldedSetIterable iter X.env x = pure x := by intro _; rfl) :
    ES Γ W A X (.For tg iter body [] pos) (PM.sFor it f s1) := ES.of (ps_for hp hc hi hg hb hs) (SemS.forS SemI.self SemG.self SemS.self)
theorem sWh (n : Nat) {body : List Stmt} (hp : PassesOwn (model X.prog X.w) X.A X.env X.xe) (hc : ET Γ W X c mc) (hb : ESs Γ W A X body s1) : ES Γ W A X (.While c body [] pos) (PM.sWhile n mc s1) := ES.of (ps_while hp hc hb) (SemS.whileS SemT.self SemS.self)
/-- xs[k] = e -/
theorem sSt (i : Nat) {x : Str} {k : Expr} {mk : Ev Sl} {px ps : Pos} (h1 : EE Γ W X e m) (h2 : EE Γ W X k mk) (hN : X.N[i]? = some x := by rfl) (hv : Vis X.env.scope x := by first | exact Or.inl rfl | exact Or.inr (Or.inl rfl) | exact Or.inr (Or.inr rfl)) (hd : (x == ("__debug__" : Str)) = false := by decide) (hcd : (x == ("__classdict__" : Str)) = false := by decide)
    (ha : ∀ v, assign (.Subscript (.Name x px) k ps) X.env v = (do
      let ov ← holding [v] (eval (.Name x px) X.env)
      let iv ← holding [v, ov] (eval k X.env)
      standAt ps
      holding [v, ov, iv] (setItem ov iv v)
      release [v, ov, iv] []) := by intro _; rfl)
    (hs : swapsWithSole [.Subscript (.Name x px) k ps] e pos.line X.env = pure false := by rfl) (hw : swappedStores [.Subscript (.Name x px) k ps] e X.env = pure none := by rfl) (hh : (assignEach [.Subscript (.Name x px) k ps] X.env).map (·.2) = [assign (.Subscript (.Name x px) k ps) X.env] := by rfl) :
    ES Γ W A X (.Assign [.Subscript (.Name x px) k ps] e pos) (sSetL i m mk) := ES.of (ps_asg h1 (pg_sub (pv i hN hv hd hcd) h2 set_list ha) hs hw hh) (Sem.setL Sem.self Sem.self)
theorem sAp (i : Nat) {x : Str} {px apos p3 : Pos} (hK : X.K = Γ.K) (h : EE Γ W X e m) (hN : X.N[i]? = some x := by rfl) (hv : Vis X.env.scope x := by first | exact Or.inl rfl | exact Or.inr (Or.inl rfl) | exact Or.inr (Or.inr rfl)) (hd : (x == ("__debug__" : Str)) = false := by decide) (hcd : (x == ("__classdict__" : Str)) = false := by decide)
    (hbase : attributeBase (.Name x px) "append" X.env (eval (.Name x px) X.env) = eval (.Name x px) X.env := by rfl)
    (hfew : ((backTo pos (starEach [e] X.env)).all (fun x => !x.1) && (backToKw pos (keywordEach [] X.env)).all (fun x => x.1.isSome)
      && decide (([e] : List Expr).length + ([] : List Keyword).length + (if ([] : List Keyword).isEmpty then 0 else 1) < 30)) = true := by rfl)
    (hline : (apos.endLine == pos.line) = true := by rfl) (hs : starEach [e] X.env = (false, eval e X.env) :: starEach [] X.env := by rfl) (hplain : (backTo pos (starEach [] X.env)).any (·.1) = false := by rfl)
    (hsw : swapsWith (.Call (.Attribute (.Name x px) "append" apos) [e] [] pos) none p3.line X.env = pure false := by rfl) :
    ES Γ W A X (.Expr (.Call (.Attribute (.Name x px) "append" apos) [e] [] pos) p3) (PM.sApp i m) := by
  have q := pe_bm (X := X) PySem.F.plainAttrs_list PySem.F.slot_list_append PySem.F.type_list_append mt_append (pv i hN hv hd hcd) (pa_cons h pa_nil hs) hbase hfew hline hs hplain
  rw [hK] at q
  exact ES.of (ps_expr q hsw) (Sem.app Sem.self)
theorem sTr (i : Nat) (cm : Nat → Option Bool) {x n : Str} {cv : Value} {body suite : List Stmt} {b₀ : Stmt} {np pos' : Pos} (hK : X.K = Γ.K) (hs : X.stack = X.env :: X.outer) (hf : X.env.frame = some X.env.locals) (hN : X.N.Nodup) (hA : A i = true) (hc : Names X x cv) (tk : Takes X W)
    (hcm : ∀ k b, cm k = some b → PySem.W.exmOne Γ.K (.ref (Γ.cls k)) cv = some b)
    (hb : ∀ (W : WX) (pn : List (Addr × Obj)) (xe : Value → Shared → Prop), Takes (X.tr pn xe) W → PassesOwn (model X.prog X.w) X.A X.env xe → ESs Γ W A (X.tr pn xe) body s1)
    (hsu : ∀ (a : Addr) (pn : List (Addr × Obj)), ESs Γ (fun _ _ _ _ => False) A (X.suite a pn) (b₀ :: suite) s2) (hi : X.N[i]? = some n := by rfl) (hln : X.env.kindOf n = some .local := by rfl) :
    ES Γ W A X (.Try body [.ExceptHandler (some (.Name x np)) (some n) (b₀ :: suite) pos'] [] [] pos) (PM.sTry i cm s1 s2) := by
  have q := ps_try_v (pos := pos) (pos' := pos') (np := np) (tb := fun W => tSt Γ W A s1) (ts := tSt Γ (fun _ _ _ _ => False) A s2) (Wout := W) hs hf hN hi hln hc tk hb hsu
  rw [hK] at q
  exact ES.of q (SemS.tryS hA hcm (fun W' => SemS.self) SemS.self)
/-- raise C(e, ..) -/
theorem sRs {x : Str} {c n k : Nat} {fI : Addr} {fd : FuncData} {ps : List Str} (hc : X.calm = true) (T : OexC X.K (Γ.cls c)) (iC : PySem.W.findIn X.K (.ref (Γ.cls c)) "__init__" = some (some (.ref fI))) (tI : PySem.W.typeIn X.K (.ref fI) = some (.type "function"))
    (F1 : FnOk X.prog X.w X.K X.mg X.base (L2.CX X.prog X.w) k fI fd ps (spInit (Γ.cls c) (Γ.xf c).reverse)) (hr : Room (k + 1) X.A) (hb : Binds X.K fd ps []) (tk : Takes X W) (hm : X.mg x = some (.ref (Γ.cls c))) (hn : ArgN n ms) (hl : (Γ.xf c).length = n) (ha : EA Γ W X (e :: es) ms)
    (hg : Gl X x := by rfl) (hdb : (x == ("__debug__" : Str)) = false := by decide) (he : starEach (e :: es) X.env = (false, eval e X.env) :: starEach es X.env := by rfl) (hpl : (backTo pos (starEach es X.env)).any (·.1) = false := by rfl) :
    ES Γ W A X (.Raise (some (.Call (.Name x p) (e :: es) [] pos)) none p2) (PM.sRaise c ms) :=
  ES.of (ps_raise hc tk (pmk_oex T iC tI F1 hr hb .nil (passes_call tk fun _ _ _ _ h => h.elim) hg hm ha hdb he hpl)) (SemS.raiseS hn hl SemA.self)
end

/-! ### a def -/
theorem fn_mk {Γ : Cfg} {P : Program} {w : World} {K : PySem.W.Frag} {mg : Str → Option Value} {base : Heap} {x qual : Str} {st : Stmt} {f : Addr} {fd : FuncData} {N ps : List Str} {k : Nat} {A : Nat → Bool} {body : Sv} (FF : Fun K x qual st f fd) (Sc : FnScope N ps (defScope st)) (hle : ps.length ≤ N.length)
    (hbody : ∀ (cdv : Value) (Ar : Around) (outer : List PySem.Env) (s : Shared) (H : Hp) (E : XK), Room k (Ar.deeper (envOfC qual (defScope st) s.heap.objs.size f cdv)) →
      ESs Γ (fun cls d _ H => E cls d H) A (cxOf (L2.CX P w) P w K mg base N qual (defScope st) f cdv Ar outer s H E) (defBody st) body) :
    FnOk P w K mg base (L2.CX P w) (k + 1) f fd ps (spOf Γ ps.length (mkFn N.length ps.length A body)) :=
  fn_ok FF Sc hle fun cdv Ar outer s H E hr => ⟨_, hbody cdv Ar outer s H E hr, SemS.self⟩
/-- def __init__(self, ..): self.f = f, each of them -/
theorem init_mk {P : Program} {w : World} {K : PySem.W.Frag} {mg : Str → Option Value} {base : Heap} {C : Addr} {x qual : Str} {st : Stmt} {f : Addr} {fd : FuncData} {n1 : Str} {k : Nat} (T : OexC K C) (h1 : PySem.W.findIn K (.ref C) n1 = some none) (FF : Fun K x qual st f fd) (Sc : FnScope ["self", n1] ["self", n1] (defScope st)) {p1 p2 p3 p4 : Pos} (hd : defBody st = [.Assign [.Attribute (.Name "self" p1) n1 p2] (.Name n1 p3) p4])
    (hv1 : Vis (defScope st) "self") (hv2 : Vis (defScope st) n1) (hd2 : (n1 == ("__debug__" : Str)) = false) (hc2 : (n1 == ("__classdict__" : Str)) = false)
    (hsw : ∀ env : PySem.Env, swapsWith (.Name n1 p3) (some (.Attribute (.Name "self" p1) n1 p2)) p4.line env = pure false) :
    FnOk P w K mg base (L2.CX P w) (k + 1) f fd ["self", n1] (spInit C [n1]) := by
  refine FF.okX Sc (fun vs H Q E h => ?_) fun cdv Ar outer s H vs Q E hr h => ?_
  · obtain ⟨a, ys, rfl, hl, _⟩ := h
    rw [List.length_cons, hl]
    rfl
  · obtain ⟨a, ys, rfl, hl, ha, q⟩ := h
    match ys, hl with
    | [y], _ =>
      rw [hd]
      refine ⟨_, pss_one (ps_ost (pv 0 rfl hv1 (by decide) (by decide)) (pv 1 rfl hv2 hd2 hc2) (hsw _)), ?_⟩
      refine ⟨y, rfl, .ref a, rfl, a, C, rfl, T, h1, .inl ⟨ha, fun dx hn hne => ?_⟩⟩
      refine q dx _ hn hne upd_same (by rw [upd_ne hne, upd_same]; rfl) fun b h1 h2 => ?_
      rw [upd_ne h1, upd_ne h2]
end PM

set_option Elab.async false
set_option linter.all false
set_option maxRecDepth 100000
set_option maxHeartbeats 4000000
/-! PM, part m: more of the same: f(), name = [..], constants of the module, recursion's foot. -/
namespace PM
open PySem PySem.Spec PyProof.Rows L2

section
variable {Γ : Cfg} {W : WX} {A : Nat → Bool} {X : Cx} {a b c e : Expr} {es rest : List Expr} {m m1 m2 m3 : Ev Sl} {mc mc2 : Ev Bool} {ms : Ev (List Sl)} {pos p p2 : Pos}
theorem eCl0 {x : Str} {fn : Fn} {k : Nat} {f : Addr} {fd : FuncData} {ps : List Str} (F : FnOk X.prog X.w X.K X.mg X.base (L2.CX X.prog X.w) k f fd ps (spOf Γ 0 fn)) (hr : Room k X.A) (hm : X.mg x = some (.ref f)) (hk : PySem.W.keepIn X.K (.ref f) = true) (hb : Binds X.K fd ps []) (tk : Takes X W)
    (hg : Gl X x := by rfl) (hdb : (x == ("__debug__" : Str)) = false := by decide) : EE Γ W X (.Call (.Name x p) [] [] pos) (eCall fn eNil) := by
  have q : PE X (.Call (.Name x p) [] [] pos) (tCallS (spOf Γ 0 fn) (WE W) tNil) := by
    refine ⟨fun pins s σ H Q I h => ?_⟩
    refine wpAny_Call_Name_kw (ld_glob I hg hm ?_ hdb)
    exact PySem.W.callWith_K0 I.kIn hk (run_fnS (us := []) F hr hb (passAt tk σ) I .nil h)
  exact EE.of q (Sem.call (E := WE W) (fun _ _ _ _ h => h) ArgN.nil SemA.nil)
/-- name = [e for t in it] on one line -/
theorem sLc (i : Nat) {y : Str} {py spos : Pos} {tg iter : Expr} {ifs : List Expr} {scope : Scope} {own : List (Str × Nat)} {it : Ev (List D)} {f : Gt} (own2 : List Nat) (hc : X.calm = true) (hN : X.N.Nodup) (hA : A i = true) (ok : BlkOk X.N X.env.scope scope own) (ho : own.map (·.2) = own2)
    (hsw : swapsWith (.ListComp e [⟨tg, iter, ifs, 0⟩] scope pos) (some (.Name y py)) spos.line X.env = pure true) (hi : EI Γ W X tg iter it)
    (hg : ∀ (s : Shared) (H : Hp) (C : Addr) (cl : List (Str × Addr)) (fp : List Addr), EG Γ (fun i => own2.contains i) (X.blk s H scope (compEnvC scope cl C X.env) fp) tg f) (ht : ∀ (s : Shared) (H : Hp) (C : Addr) (cl : List (Str × Addr)) (fp : List Addr), EPs Γ W0 (X.blk s H scope (compEnvC scope cl C X.env) fp) ifs mc)
    (he : ∀ (s : Shared) (H : Hp) (C : Addr) (cl : List (Str × Addr)) (fp : List Addr), EE Γ W0 (X.blk s H scope (compEnvC scope cl C X.env) fp) e m) (hy : X.N[i]? = some y := by rfl) (hyl : X.env.scope.names.lookup y = some .local := by rfl) (hs : ∀ x, foldedSetIterable iter X.env x = pure x := by intro _; rfl) :
    ES Γ W A X (.Assign [.Name y py] (.ListComp e [⟨tg, iter, ifs, 0⟩] scope pos) spos) (PM.sAsg i (eComp it own2 f mc m)) := by
  subst ho
  exact ES.of (ps_setLc hc hN hy hyl hsw hi ok hg ht he hs) (Sem.asg hA (Sem.comp SemI.self SemG.self SemT.self Sem.self))
theorem eGc {x : Str} {v : V} {d : D} (hm : ∃ u, X.mg x = some u ∧ RelV v u) (hd : ∀ S, Rep Γ S d v) (hg : Gl X x := by rfl) (hdb : (x == ("__debug__" : Str)) = false := by decide) : EE Γ W X (.Name x pos) (eC d) := by
  obtain ⟨u, h1, h2⟩ := hm
  exact eGl h1 h2 hd hg hdb
theorem eFz (h : EE Γ W X e m) : EE Γ W X e (eFr m) := EE.of h (Sem.fr Sem.self)
end
theorem pty_bool {X : Cx} {p : Pos} (hm : X.mg "bool" = none) (hg : Gl X "bool" := by rfl) : PE X (.Name "bool" p) (tC (.ty (tyN 1))) := pe_bltn hg hm (by decide +kernel : bootBuiltins "bool" = some (.type "bool")) rfl
theorem pty_int {X : Cx} {p : Pos} (hm : X.mg "int" = none) (hg : Gl X "int" := by rfl) : PE X (.Name "int" p) (tC (.ty (tyN 2))) := pe_bltn hg hm (by decide +kernel : bootBuiltins "int" = some (.type "int")) rfl
theorem pty_str {X : Cx} {p : Pos} (hm : X.mg "str" = none) (hg : Gl X "str" := by rfl) : PE X (.Name "str" p) (tC (.ty (tyN 3))) := pe_bltn hg hm (by decide +kernel : bootBuiltins "str" = some (.type "str")) rfl
theorem pty_tuple {X : Cx} {p : Pos} (hm : X.mg "tuple" = none) (hg : Gl X "tuple" := by rfl) : PE X (.Name "tuple" p) (tC (.ty (tyN 4))) := pe_bltn hg hm (by decide +kernel : bootBuiltins "tuple" = some (.type "tuple")) rfl
theorem pty_list {X : Cx} {p : Pos} (hm : X.mg "list" = none) (hg : Gl X "list" := by rfl) : PE X (.Name "list" p) (tC (.ty (tyN 5))) := pe_bltn hg hm (by decide +kernel : bootBuiltins "list" = some (.type "list")) rfl
/-- a def, its meaning told by equations -/
theorem fn_mk2 {Γ : Cfg} {P : Program} {w : World} {K : PySem.W.Frag} {mg : Str → Option Value} {base : Heap} {x qual : Str} {st : Stmt} {f : Addr} {fd : FuncData} {N ps : List Str} {k nN np : Nat} {A : Nat → Bool} {body m : Sv} {fn : Fn} (FF : Fun K x qual st f fd) (Sc : FnScope N ps (defScope st)) (hf : fn = mkFn nN np A body) (hN : N.length = nN) (hp : ps.length = np) (hle : np ≤ nN) {b : List Stmt} (hst : defBody st = b)
    (hbody : ∀ (cdv : Value) (Ar : Around) (outer : List PySem.Env) (s : Shared) (H : Hp) (E : XK), Room k (Ar.deeper (envOfC qual (defScope st) s.heap.objs.size f cdv)) →
      ESs Γ (fun cls d _ H => E cls d H) A (cxOf (L2.CX P w) P w K mg base N qual (defScope st) f cdv Ar outer s H E) b m) (hm : m = body) :
    FnOk P w K mg base (L2.CX P w) (k + 1) f fd ps (spOf Γ np fn) := by
  subst hf hN hp hm hst
  exact fn_mk FF Sc hle hbody
theorem FnOk.bad {Γ : Cfg} {P : Program} {w : World} {K : PySem.W.Frag} {mg : Str → Option Value} {base : Heap} {CX : CXT} {k n : Nat} {f : Addr} {fd : FuncData} {ps : List Str} : FnOk P w K mg base CX k f fd ps (spOf Γ n fun _ => .bad) :=
  ⟨fun vs H Q E h => by obtain ⟨_, F, S, ss, _, o⟩ := h; exact o.elim, fun A outer s H args us vs Q E _ _ _ _ h => by obtain ⟨_, F, S, ss, _, o⟩ := h; exact o.elim⟩
def cmpB (p : Int → Int → Bool) (a b : D) : Option Bool := match a, b with
  | .int i, .int j => some (p i j)
  | _, _ => none
theorem cmpB_ok {Γ : Cfg} {p : Int → Int → Bool} : BlD Γ (rI0 fun i j => .bl (p i j)) (cmpB p) := ⟨by
  intro S H a b x y k Q e h1 h2 h q
  cases a with
  | int i =>
    cases b with
    | int j =>
      cases h
      have e1 : x = .int i := h1
      have e2 : y = .int j := h2
      exact ⟨i, j, e1, e2, q⟩
    | _ => cases h
  | _ => cases h⟩
end PM

set_option Elab.async false
set_option linter.all false
set_option maxRecDepth 100000
set_option maxHeartbeats 4000000
/-! PM, part n: text.replace(y, pick(box, [z, ..])): the tokens of the texts must be carried. -/
namespace PM
open PySem PySem.Spec PyProof.Rows L2

section
variable {Γ : Cfg} {W : WX} {A : Nat → Bool} {X : Cx}
/-- text.replace(y, zs[take(box, len(zs))]): ip: text, ib: box -/
def eReplK (y : List Nat) (zs : List (List Nat)) (x : List Nat) : Sl → Ev Sl := fun r ρ => match r with
  | .sh (.int i) => if decide (0 ≤ i) = true then (match zs[i.toNat]? with
    | some z => if okL (x.length + (x.length + 1) * z.length) then .ok (.sh (.str (PySem.StrLaws.replL y z x))) ρ else .bad
    | none => .bad) else .bad
  | _ => .bad
def eReplOf (ft : Fn) (ip ib : Nat) (y : List Nat) (zs : List (List Nat)) : Ev Sl := fun ρ => match ρ[ip]? with
  | some (.sh (.str x)) => Ev.bind (eCall ft (eCons (eVar ib) (eCons (eC (.int (zs.length : Int))) eNil))) (eReplK y zs x) ρ
  | _ => .bad
def constsOf : List Expr → List Str → Prop
  | [], [] => True
  | .Constant (.str z) _ _ :: es, z' :: zs => z = z' ∧ constsOf es zs
  | _, _ => False
theorem raw_strs {M : Model} {Ar : Around} {env : PySem.Env} {pos : Pos} : ∀ (zs : List Str) (es : List Expr), constsOf es zs → ∀ {s : Shared} {Q : List Value → Shared → Prop} {E : Value → Shared → Prop},
    (∀ us, Vals (zs.map V.str) us → us.length = zs.length → (∀ (i : Nat) z, zs[i]? = some z → ∃ t : Nat, us[i]? = some (.str z t) ∧ s.toks ≤ t) → Q us { s with toks := s.toks + zs.length }) → wpAny M Ar (spliced (backTo pos (starEach es env))) Q E s
  | [], [], _, s, Q, E, h => Calls.spliced_nil (h [] .nil rfl (fun i z e => by cases e))
  | z :: zs, .Constant (.str z') j c :: es, hc, s, Q, E, h => by
    obtain ⟨rfl, hc⟩ := hc
    show wpAny _ _ (spliced ((false, eval (.Constant (.str z') j c) env) :: backTo pos (starEach es env))) _ _ s
    refine Calls.spliced_cons (Calls.Constant_str ?_)
    refine raw_strs zs es hc fun us hv hl hu => ?_
    have q := h (.str z' s.toks :: us) (.cons ⟨s.toks, rfl⟩ hv) (by simp [hl]) (fun i z e => by
      cases i with
      | zero =>
        have e' : z' = z := by simpa using e
        subst e'
        exact ⟨s.toks, rfl, Nat.le_refl _⟩
      | succ i =>
        obtain ⟨t, h1, h2⟩ := hu i z (by simpa using e)
        have h2' : s.toks + 1 ≤ t := h2
        exact ⟨t, by simpa using h1, by omega⟩)
    have e1 : s.toks + 1 + zs.length = s.toks + (z' :: zs).length := by rw [List.length_cons]; omega
    show Q _ { s with toks := s.toks + 1 + zs.length }
    rw [e1]
    exact q
  | [], e :: es, hc, _, _, _, _ => by cases e <;> simp [constsOf] at hc
  | z :: zs, [], hc, _, _, _, _ => by simp [constsOf] at hc
/-- what pick(box, zs) leaves, zs the list at p whose object is known -/
def RawOf (P : Program) (w : World) (K : PySem.W.Frag) (mg : Str → Option Value) (base : Heap) (Γ : Cfg) (k : Nat) (f : Addr) (ft : Fn) : Prop :=
  ∀ (Ar : Around) (outer : List PySem.Env) (s : Shared) (H : Hp) (ub : Value) (vb : V) (p : Addr) (o : Obj) (zs : List Str) (its : Array Value) (n : Nat) (Q : VK) (E : XK) (T : Nat), Room k Ar → Env0 P w K mg base Ar outer s H → RelV vb ub →
    H p = some (.frz o (.lst (zs.map V.str))) → o.cls = .type "list" → o.data = .seq its n → (∀ (i : Nat) z, zs[i]? = some z → ∃ t : Nat, its[i]? = some (.str z t) ∧ T ≤ t) → (zs.length : Int) < 2 ^ 62 →
    spOf Γ 2 ft [vb, .int zs.length] H (fun v H1 => H1 p = some (.frz o (.lst (zs.map V.str))) ∧ ∃ (i : Nat) (z : Str), v = .int i ∧ zs[i]? = some z ∧ Q (.str z) H1) E →
    codeAny (model P w) Ar (.call (.ref f) ⟨[ub, .ref p], []⟩) (fun r s' => match r with
      | .ok (.ret u) => (∃ v H', s'.os = s.os ∧ AllBare s'.gens ∧ Un (frs outer) [] H H' s.heap s'.heap ∧ HOk P w H' s'.heap ∧ RelV v u ∧ Q v H') ∧ ∀ z (t : Nat), u = .str z t → T ≤ t
      | .ok _ => False
      | .error e => L2.CX P w outer H s E e s') s
theorem of_raw {P : Program} {w : World} {K : PySem.W.Frag} {mg : Str → Option Value} {base : Heap} {x qual nb ng : Str} {st : Stmt} {f : Addr} {fd : FuncData} {k : Nat} {ft : Fn} {idx : Expr} {p1 p2 p3 : Pos} (FF : Fun K x qual st f fd) (Sc : FnScope [nb, ng] [nb, ng] (defScope st)) (hb : Binds K fd [nb, ng] [])
    (hbd : defBody st = [.Return (some (.Subscript (.Name ng p1) idx p2)) p3]) (hv : Vis (defScope st) ng) (hd1 : (ng == ("__debug__" : Str)) = false) (hd2 : (ng == ("__classdict__" : Str)) = false) (hpl : PlainIx idx)
    (hidx : ∀ (cdv : Value) (Ar : Around) (outer : List PySem.Env) (s : Shared) (H : Hp) (E : XK), Room k (Ar.deeper (envOfC qual (defScope st) s.heap.objs.size f cdv)) →
      PE (cxOf (L2.CX P w) P w K mg base [nb, ng] qual (defScope st) f cdv Ar outer s H E) idx (tCallS (spOf Γ 2 ft) (WE fun cls d _ H => E cls d H) (tCons (tVar 0) (tCons (tCB (rLenX K) (tCons (tVar 1) tNil)) tNil)))) : RawOf P w K mg base Γ (k + 1) f ft := by
  obtain ⟨oc, od, kV, doc, pm, an, cdv, ct, osl, rfl, lk, hcd⟩ := FF.ex
  intro Ar outer s H ub vb p o zs its n Q E T hr e0 rb hp ho1 ho2 hit hlen hsp
  have KX : K.In s.heap := e0.mod.kin.keeps fun b o e => (e0.bs b o e).1
  have lim : s.heap.NoLimit := e0.mod.nolimit.keeps fun b o e => (e0.bs b o e).1
  have hkind : ∀ y ∈ [nb, ng].zip [ub, .ref p], (defScope st).names.lookup y.1 = some .local ∨ ((defScope st).names.lookup y.1 = some .cell ∧ ((cellsFrom (s.heap.objs.size + 1) (defScope st).names []).lookup y.1).isSome = true) := fun ⟨n, v⟩ hy => by
    rcases Sc.par n (List.of_mem_zip hy).1 with q | q
    · exact .inl q
    · exact .inr ⟨q, PySem.W.cellsFrom_some _ _ _ (.inl q)⟩
  have bb := hb s [ub, .ref p] KX rfl
  rw [List.append_nil] at bb
  refine codeAny_call_function hr.depth (KX _ _ lk) rfl Sc.co Sc.gen rfl (PySem.W.codeRec_of KX hcd) (bb _ _ _ _ ?_)
  refine wpAny_newFunctionEnv_cells Sc.kind hkind fun env he s1 xx => ?_
  subst he
  refine ⟨lim.keeps xx.toInCall.keep, codeAny_func ?_⟩
  have rv : Vals [vb, V.ref p] [ub, Value.ref p] := .cons rb (.cons rfl .nil)
  have I : Inv (cxOf (L2.CX P w) P w K mg base [nb, ng] qual (defScope st) f cdv Ar outer s H E) [] (start [nb, ng] [vb, .ref p]) H s1 := inv_start Sc hr.hd e0 rfl rv xx
  rw [hbd]
  refine wpAny_mono (E := (cxOf (L2.CX P w) P w K mg base [nb, ng] qual (defScope st) f cdv Ar outer s H E).xe) ?_ (fun _ _ q => q) (fun e s' q => q)
  refine wpAny_execs_cons (wpAny_Return_some (Subscript_ (raw_name (i := 1) (v := .ref p) rfl hv I rfl (fun u r => ?_) hd1 hd2)))
  obtain rfl : u = Value.ref p := r
  refine thn ((hidx cdv Ar outer s H E (hr.deeper _)).run [] s1 _ H _ I ⟨vb, rfl, .ref p, rfl, .inl ⟨p, zs.map V.str, rfl, .inl (.inl (.inr ⟨o, hp⟩)), by rw [List.length_map]; exact hsp⟩⟩) fun iv s2 hh => ?_
  obtain ⟨v, H1, I2, rv2, hp1, i, z, rfl, hz, q⟩ := hh
  obtain ⟨ti, rfl⟩ := rv2
  obtain ⟨t, h1, h2⟩ := hit i z hz
  have hl : s2.heap.IsList p its := by
    obtain ⟨h5, _⟩ := I2.hok p _ hp1
    exact ⟨o, h5, ho1, n, ho2⟩
  have hi : (i : Int) < 2 ^ 63 := by
    have := (List.getElem?_eq_some_iff.mp hz).1
    omega
  refine item_listR hl (by omega) hi (x := .str z t) (by rw [Int.toNat_natCast]; exact h1) ?_ (hpl _ _)
  exact ⟨⟨.str z, H1, I2.os, I2.bare, I2.base, I2.hok, ⟨t, rfl⟩, q⟩, fun z' t' e => by cases e; exact h2⟩
/-- an own object is laid where nothing stands: the frame bears it -/
theorem FI.laid {F : List (List Addr)} {ρ : Env} {σ : L2.St} {S H : Hp} {p : Addr} {o : HO} (I : FI Γ F ρ σ S H) (hp : H p = none) : FI Γ F ρ σ S (upd H p o) := I.ext (Ex.refl _) (Ex.new hp) (I.sub.trans (Ex.new hp)) fun a h => .inl h
theorem Tr.laid {F : List (List Addr)} {S H : Hp} {p : Addr} {o : HO} (hp : H p = none) : Tr F S H F S (upd H p o) := ⟨Ex.refl _, fun a u e _ => Ex.new hp a u e, fun a h => .inl h, fun a h => .inl h⟩
theorem pet_repl {k : Nat} {f : Addr} {ft : Fn} {ip ib : Nat} {y : List Nat} {zs : List (List Nat)} {kx nf kb ys : Str} {zt : List Str} {es : List Expr} {j0 : Nat} {p1 pf pb c0 lp cp apos pos : Pos} (R : RawOf X.prog X.w X.K X.mg X.base Γ k f ft) (hr : Room k X.A) (tk : Takes X W) (hm : X.mg nf = some (.ref f)) (hk : PySem.W.keepIn X.K (.ref f) = true)
    (hy : ys = tx y) (hz : zt = zs.map tx) (hes : constsOf es zt) (hy1 : y ≠ []) (hyz : ∀ z ∈ zs, y ≠ z) (hzl : (zs.length : Int) < 2 ^ 24)
    (hNk : X.N[ip]? = some kx) (hvk : Vis X.env.scope kx) (hNb : X.N[ib]? = some kb) (hvb : Vis X.env.scope kb) (hg : Gl X nf) (hdb : (nf == ("__debug__" : Str)) = false)
    (hdk : (kx == ("__debug__" : Str)) = false) (hck : (kx == ("__classdict__" : Str)) = false) (hdp : (kb == ("__debug__" : Str)) = false) (hcp : (kb == ("__classdict__" : Str)) = false)
    (hst : starEach [.Constant (.str ys) j0 c0, .Call (.Name nf pf) [.Name kb pb, .List es lp] [] cp] X.env = [(false, eval (.Constant (.str ys) j0 c0) X.env), (false, eval (.Call (.Name nf pf) [.Name kb pb, .List es lp] [] cp) X.env)])
    (hs2 : starEach [.Name kb pb, .List es lp] X.env = [(false, eval (.Name kb pb) X.env), (false, eval (.List es lp) X.env)])
    (hs2' : starEach [.Name kb pb, .List es lp] X.env = (false, eval (.Name kb pb) X.env) :: starEach [.List es lp] X.env) (hpl2 : (backTo cp (starEach [.List es lp] X.env)).any (·.1) = false)
    (hbase : attributeBase (.Name kx p1) "replace" X.env (eval (.Name kx p1) X.env) = eval (.Name kx p1) X.env) (hline : (apos.endLine == pos.line) = true) :
    PET X (.Call (.Attribute (.Name kx p1) "replace" apos) [.Constant (.str ys) j0 c0, .Call (.Name nf pf) [.Name kb pb, .List es lp] [] cp] [] pos) (tE Γ W (eReplOf ft ip ib y zs)) := by
  intro pins s σ H Q h0 I h
  obtain ⟨F, ρ, S, J, o⟩ := h
  subst hy hz
  unfold eReplOf at o
  split at o
  case h_2 => exact o.elim
  rename_i x hρx
  obtain ⟨xv, lx, hσx0, _, _, xw, hxw, rx⟩ := J.all.get hρx
  subst hxw
  have hσx : σ[ip]? = some (some (.str (tx x))) := by
    have q : xw = .str (tx x) := rx
    rw [hσx0, q]
  have hσb : ∃ vb, σ[ib]? = some (some vb) := by
    cases q : ρ[ib]? with
    | none => exfalso; simp [Ev.bind, eCall, eCons, eVar, q, Out] at o
    | some sl =>
      obtain ⟨w, l, h1, _, h3⟩ := J.all.get q
      cases sl with
      | no => exfalso; simp [Ev.bind, eCall, eCons, eVar, q, Out] at o
      | br j => exact h3.elim
      | sh d => obtain ⟨_, v, hv, _⟩ := h3; subst hv; exact ⟨v, h1⟩
      | ow d => obtain ⟨v, hv, _⟩ := h3; subst hv; exact ⟨v, h1⟩
  obtain ⟨vb, hσb⟩ := hσb
  refine PySem.Call_method2 hbase hst hline (raw_name hNk hvk I hσx (fun v r => ?_) hdk hck)
  obtain ⟨tkx, rfl⟩ := r
  refine ⟨"str", _, PySem.F.plainAttrs_str, PySem.F.slot_str_replace, PySem.F.type_str_replace, typeIs_str _ _ _, (fun _ e => nomatch e), Calls.callWith_builtin rfl (Calls.evalArgs_plain (Calls.spliced_cons ?_))⟩
  refine Calls.Constant_str ?_
  refine Calls.spliced_cons (wpAny_Call_Name_kw (ld_glob (I.tok (s.toks + 1)) hg hm ?_ hdb))
  refine PySem.W.callWith_K (h₀ := X.base) I.ok.mod.kin hk ?_ hs2' hpl2
  rw [hs2]
  show wpAny _ _ (spliced ((false, eval (.Name kb pb) X.env) :: [(false, eval (.List es lp) X.env)])) _ _ _
  refine Calls.spliced_cons (raw_name hNb hvb (I.tok (s.toks + 1)) hσb (fun ub rb => ?_) hdp hcp)
  refine Calls.spliced_cons (wpAny_List_spliced (raw_strs _ es hes fun us hv hl hu => ?_))
  have hzl2 : us.length ≤ sizeLine := by
    rw [hl, List.length_map, sizeLine_eq]
    omega
  refine ⟨hzl2, Calls.spliced_nil ?_⟩
  -- the list
  have hp : H s.heap.objs.size = none := I.hok.fresh (Nat.le_refl _)
  have I2 : L2.Inv X pins σ (upd H s.heap.objs.size (.frz { cls := .type "list", data := .seq us.toArray } (.lst ((zs.map tx).map V.str)))) { s with heap := s.heap.push { cls := .type "list", data := .seq us.toArray }, toks := s.toks + 1 + (zs.map tx).length } := by
    refine I.laid (t' := s.toks + 1 + (zs.map tx).length) (fun b o e => Heap.get?_push_of_some _ e) (Nat.le_refl _) ⟨Heap.get?_push_size _ rfl, ?_, us, 0, hv, Heap.get?_push_size _ rfl⟩
    rw [List.length_map, ← hl]; exact hzl2
  refine ⟨I2.kIn, ?_⟩
  show wpAny _ _ (call (.ref f) [ub, .ref s.heap.objs.size]) _ _ _
  have J2 := J.laid (o := .frz { cls := .type "list", data := .seq us.toArray } (.lst ((zs.map tx).map V.str))) hp
  have T2 := Tr.laid (F := F) (S := S) (o := .frz { cls := .type "list", data := .seq us.toArray } (.lst ((zs.map tx).map V.str))) hp
  -- what take leaves
  have call := Sem.call (Γ := Γ) (W := W) (n := 2) (f := ft) (E := WE W) (t := tCons (tVar ib) (tCons (tC (.int (zs.length : Int))) tNil)) (ms := eCons (eVar ib) (eCons (eC (.int (zs.length : Int))) eNil)) (fun _ _ _ _ h => h) (ArgN.cons (ArgN.cons ArgN.nil)) (SemA.cons Sem.var (SemA.cons Sem.int SemA.nil)) F ρ σ S _
    (fun v H1 => H1 s.heap.objs.size = some (.frz { cls := .type "list", data := .seq us.toArray } (.lst ((zs.map tx).map V.str))) ∧ ∃ (i : Nat) (z : Str), v = .int i ∧ (zs.map tx)[i]? = some z ∧ ∃ z', V.str z = V.str z' ∧ Q (.str (Txt.replace (tx x) (tx y) z')) H1 ∧ (tx x).length + ((tx x).length + 1) * z'.length ≤ 16777216 ∧ (tx y == z') = false) J2 ?_
  · obtain ⟨vb', hvb', hsp⟩ := call
    rw [hσb] at hvb'
    cases hvb'
    have hR := R X.A X.stack _ _ ub vb s.heap.objs.size _ (zs.map tx) us.toArray 0 (fun v H1 => ∃ z, v = .str z ∧ Q (.str (Txt.replace (tx x) (tx y) z)) H1 ∧ (tx x).length + ((tx x).length + 1) * z.length ≤ 16777216 ∧ (tx y == z) = false) (WE W σ) (s.toks + 1) hr I2.env0 rb upd_same rfl rfl
      (fun i z e => by
        obtain ⟨t, h1, h2⟩ := hu i z e
        exact ⟨t, by simpa using h1, h2⟩) (by rw [List.length_map]; omega) (by
        rw [List.length_map]
        exact hsp)
    refine wpAny_call (codeAny_mono hR fun r s' hq => ?_)
    cases r with
    | error e => exact passAt tk σ pins _ _ e s' I2 hq
    | ok fl =>
      cases fl with
      | next => exact hq.elim
      | brk => exact hq.elim
      | cont => exact hq.elim
      | ret u =>
        obtain ⟨ce, hT⟩ := hq
        obtain ⟨v, H3, I3, rv, z, rfl, q1, q2, q3⟩ := I2.after (Q := fun v H1 => ∃ z, v = .str z ∧ Q (.str (Txt.replace (tx x) (tx y) z)) H1 ∧ (tx x).length + ((tx x).length + 1) * z.length ≤ 16777216 ∧ (tx y == z) = false) ce
        obtain ⟨t, rfl⟩ := rv
        have ht := hT z t rfl
        refine Calls.spliced_nil ?_
        exact PySem.SC.replace (Nat.ne_of_gt h0) (Nat.ne_of_gt (Nat.lt_of_lt_of_le (Nat.succ_pos _) ht)) (Nat.ne_of_lt ht) q3 q2 fun t' k => ⟨.str (Txt.replace (tx x) (tx y) z), H3, I3.tok k, ⟨t', rfl⟩, q1⟩
  · unfold Ev.bind at o
    cases e : eCall ft (eCons (eVar ib) (eCons (eC (.int (zs.length : Int))) eNil)) ρ with
    | bad => rw [e] at o; exact o.elim
    | exc c fs ρ' => rw [e] at o; exact Out.later (p := pE Γ σ _) (r := .exc c fs ρ') pE_later o T2
    | ok r ρ' =>
      simp only [e] at o
      intro F' S' H1 I' T' v l hl' hd
      refine ⟨T'.keep _ _ upd_same fun z => J.there _ z hp, ?_⟩
      unfold eReplK at o
      split at o
      case h_2 => exact o.elim
      rename_i i
      split at o
      case isFalse => exact o.elim
      rename_i hi
      have hi := of_decide_eq_true hi
      split at o
      case h_2 => exact o.elim
      rename_i z hz
      split at o
      case isFalse => exact o.elim
      rename_i hok
      have ev : v = .int i := hd.r.2
      refine ⟨i.toNat, tx z, by rw [ev, Int.toNat_of_nonneg hi], by rw [List.getElem?_map, hz]; rfl, tx z, rfl, ?_, ?_, ?_⟩
      · have er : Txt.replace (tx x) (tx y) (tx z) = tx (PySem.StrLaws.replL y z x) := by
          have q := PySem.StrLaws.replace_list (x := tx x) (y := tx y) (z := tx z) (by rw [tx_len]; exact List.length_pos_iff.mpr hy1)
          rw [tx_cps, tx_cps, tx_cps] at q
          rw [← tx_of (Txt.replace (tx x) (tx y) (tx z)), q]
        rw [er]
        exact o F' S' H1 I' (T2.trans T') _ [] (by simp) (.sh rfl)
      · rw [tx_len, tx_len]; exact okL_16 hok
      · exact beq_eq_false_iff_ne.mpr fun q => hyz z (List.mem_of_getElem? hz) (tx_inj q)
/-- if way == n: return text.replace(y, pick(box, [..])) -/
theorem psst_retT {e : Expr} {te : TE} {pos : Pos} (h : PET X e te) : PSsT X [.Return (some e) pos] (tRet te) := by
  intro pins s σ H D h0 I q
  refine wpAny_execs_cons (wpAny_Return_some (thn (h pins s σ H _ h0 I q) fun u s1 ⟨x, H1, I1, r1, q1⟩ => ⟨x, σ, H1, I1, r1, q1⟩))
theorem SemT_cmp {i : Nat} {n : Int} {r : R2} {f : D → D → Option Sl} (hf : OpD Γ r f) : SemT Γ W (tTest (tOp r (tE Γ W (eVar i)) (tC (.int n)))) (eTest (eOp f (eVar i) (eC (.int n)))) := Sem.test (Sem.op hf Sem.self Sem.int)
theorem sIrep {kx : Str} {i : Nat} {n : Int} {j : Nat} {px pc pcmp pif pos : Pos} {e : Expr} {m : Ev Sl} {x2 : List Stmt} {s2 : Sv} {r : R2} {f : D → D → Option Sl} (ho : OpR X (compareOp .Eq) r) (hf : OpD Γ r f) (hi : EE Γ W X (.Name kx px) (eVar i)) (h : PET X e (tE Γ W m)) (h2 : ESs Γ W A X x2 s2) (hm : behindInMarks .Eq (.Constant (.int n) j pc) = false := by exact nomark _) :
    ES Γ W A X (.If (.Compare (.Name kx px) [.Eq] [.Constant (.int n) j pc] pcmp) [.Return (some e) pos] x2 pif) (PM.sIf (eTest (eOp f (eVar i) (eC (.int n)))) (PM.sRet m) s2) := by
  have key : PS X (.If (.Compare (.Name kx px) [.Eq] [.Constant (.int n) j pc] pcmp) [.Return (some e) pos] x2 pif) (tIfS (tTest (tOp r (tE Γ W (eVar i)) (tC (.int n)))) (tRet (tE Γ W m)) (tSt Γ W A s2)) := by
    refine ⟨fun pins s σ H D I q => ?_⟩
    refine wpAny_If (wpAny_isTrue_Compare1 (thn (hi.run pins s σ H _ I q) fun v s1 ⟨x, H1, I1, r1, q1⟩ => wpAny_Constant_int ?_) hm)
    have k1 : 1 ≤ ({ s1 with toks := s1.toks + 1 } : Shared).toks := by show 1 ≤ s1.toks + 1; omega
    refine wpAny_mono (wpAny_toks_of k1 (ho pins _ σ H1 x (.int n) v (.int n s1.toks) _ (I1.tok _) r1 ⟨_, rfl⟩ q1)) (fun c s3 ⟨k3, z, H3, I3, r3, k, ek, q3⟩ => ?_) fun _ _ z => z.2
    subst ek
    cases r3
    refine wpAny_truthy_bool ?_
    cases k with
    | true => exact psst_retT h pins s3 σ H3 D k3 I3 q3
    | false => exact h2.run pins s3 σ H3 D I3 q3
  exact ES.of key (SemS.ifS (SemT_cmp hf) (Sem.ret Sem.self) SemS.self)
end
end PM

set_option Elab.async false
set_option linter.all false
set_option maxRecDepth 100000
set_option maxHeartbeats 4000000
/-! PM, part o: a law's end. -/
namespace PM
open PySem PySem.Spec PyProof.Rows L2
def spLaw (K : PySem.W.Frag) (n : Nat) : Sp := fun vs H Q _ => ∃ (a : Addr) (ns : List Int), vs = [.ref a] ∧ ns.length ≤ n ∧ SqL K H a (ns.map V.int) ∧ ∀ H', Q (.bl true) H'
theorem law_end {Γ : Cfg} {P : Program} {w : World} {mg : Str → Option Value} {base : Heap} {CX : CXT} {k n : Nat} {f : Addr} {fd : FuncData} {ps : List Str} {fn : Fn} (F : FnOk P w Γ.K mg base CX k f fd ps (spOf Γ 1 fn))
    (h : ∀ ns : List Int, ns.length ≤ n → ∃ outs, fn [.sh (.scr ns)] = .ok (.sh (.bl true)) outs) : FnOk P w Γ.K mg base CX k f fd ps (spLaw Γ.K n) := by
  refine F.imp fun vs H Q E hs => ?_
  obtain ⟨a, ns, rfl, hl, hS, q⟩ := hs
  obtain ⟨outs, e⟩ := h ns hl
  refine ⟨rfl, [[]], H, [.sh (.scr ns)], ⟨Ex.refl _, ⟨⟨rfl, .ref a, rfl, a, rfl, hS⟩, True.intro⟩, by simp, by simp⟩, ?_⟩
  rw [e]
  intro v l F' S' H' _ _ _ _ hd
  have ev : v = .bl true := hd.r.2
  rw [ev]
  exact q H'
theorem cx_no {P : Program} {w : World} {H : Hp} {s : Shared} {e : Value} {s' : Shared} (h : L2.CX P w [] H s (fun _ _ _ => False) e s') : False := by
  obtain ⟨_, _, _, _, _, _, _, _, _, _, _, _, z⟩ := h
  exact z
end PM

set_option Elab.async false
set_option linter.all false
set_option maxRecDepth 100000
set_option maxHeartbeats 4000000
/-! PM, part p: plain Lean about what a law's defs compute. -/
namespace PM
theorem log_lt {s : Int} (h0 : 0 < s) (h1 : s < 1000) : s.natAbs.log2 < 9000 := by
  have : s.natAbs < 2 ^ 10 := by omega
  have h2 : s.natAbs ≠ 0 := by omega
  have := (Nat.log2_lt h2).mpr this
  omega
theorem mul_l {i j : Int} (h : i.natAbs < 18446744073709551616) : mulOk i j = true := by
  unfold mulOk
  rw [Bool.or_eq_true, Bool.or_eq_true]
  exact .inl (.inl (by simpa using h))
theorem mul_r {i j : Int} (h : j.natAbs < 18446744073709551616) : mulOk i j = true := by
  unfold mulOk
  rw [Bool.or_eq_true, Bool.or_eq_true]
  exact .inl (.inr (by simpa using h))
/-- a for with an invariant -/
theorem forL_inv {g : Gt} {body : Sv} (P : Nat → Env → Prop) : ∀ (ds : List D) (k : Nat) (ρ0 : Env), P k ρ0 →
    (∀ i d ρ, ds[i]? = some d → P (k + i) ρ → ∃ ρ1, g d ρ = some ρ1 ∧ ∃ ρ2, (body ρ1 = .nx ρ2 ∨ body ρ1 = .ct ρ2) ∧ P (k + i + 1) ρ2) → ∃ ρ', forL g body ds ρ0 = .nx ρ' ∧ P (k + ds.length) ρ'
  | [], k, ρ0, h, _ => ⟨ρ0, rfl, h⟩
  | d :: ds, k, ρ0, h, st => by
    obtain ⟨ρ1, e1, ρ2, e2, h2⟩ := st 0 d ρ0 rfl h
    obtain ⟨ρ', e3, h3⟩ := forL_inv P ds (k + 1) ρ2 h2 fun i d' ρ hi hP => by
      have e : k + (i + 1) = k + 1 + i := by omega
      have q := st (i + 1) d' ρ (by simpa using hi) (by rw [e]; exact hP)
      rw [e] at q
      exact q
    refine ⟨ρ', ?_, by rw [List.length_cons, show k + (ds.length + 1) = k + 1 + ds.length by omega]; exact h3⟩
    unfold forL
    rw [e1]
    rcases e2 with e2 | e2 <;> simp only [e2] <;> exact e3
/-- a comprehension without a test, with an invariant -/
theorem lcT_inv {own : List Nat} {g : Gt} {m : Ev Sl} (P : Nat → List D → Env → Prop) : ∀ (ds : List D) (k : Nat) (acc : List D) (ρ0 : Env), P k acc ρ0 → acc.length + ds.length ≤ 100000 →
    (∀ i d acc ρ, ds[i]? = some d → P (k + i) acc ρ → ∃ ρ1, g d ρ = some ρ1 ∧ ∃ z ρ2, eFr m ρ1 = .ok (.sh z) ρ2 ∧ P (k + i + 1) (acc ++ [z]) (wipeE ρ2 own)) → ∃ acc' ρ', lcT own g eYes m ds acc ρ0 = .ok acc' ρ' ∧ P (k + ds.length) acc' ρ'
  | [], k, acc, ρ0, h, _, _ => ⟨acc, ρ0, rfl, h⟩
  | d :: ds, k, acc, ρ0, h, hl, st => by
    obtain ⟨ρ1, e1, z, ρ2, e2, h2⟩ := st 0 d acc ρ0 rfl h
    rw [List.length_cons] at hl
    obtain ⟨acc', ρ', e3, h3⟩ := lcT_inv P ds (k + 1) (acc ++ [z]) (wipeE ρ2 own) h2 (by rw [List.length_append]; simp; omega) fun i d' a ρ hi hP => by
      have e : k + (i + 1) = k + 1 + i := by omega
      have q := st (i + 1) d' a ρ (by simpa using hi) (by rw [e]; exact hP)
      rw [e] at q
      exact q
    refine ⟨acc', ρ', ?_, by rw [List.length_cons, show k + (ds.length + 1) = k + 1 + ds.length by omega]; exact h3⟩
    have ok : okL acc.length = true := Nat.ble_eq_true_of_le (by omega)
    unfold lcT
    simp only [e1, eYes, e2, ok, if_true]
    exact e3
end PM

set_option Elab.async false
set_option linter.all false
set_option maxRecDepth 100000
set_option maxHeartbeats 4000000
namespace PM
namespace porterhands_k02_wrong_texts_of_runs
open PySem PySem.Spec PyProof.Rows L2
def top (i : Nat) : Stmt := PySem.Challenge.pw_porterhands_k02_wrong_texts_of_runs.main.body.getD i (.Pass ⟨0, 0, 0, 0⟩)
def c_LETTERS : D := .str [97, 98, 99, 100, 101, 102, 103, 104, 105, 106, 107, 108, 109, 110, 111, 112, 113, 114, 115, 116, 117, 118, 119, 120, 121, 122]
theorem k_LETTERS : V.str "abcdefghijklmnopqrstuvwxyz" = V.str (tx [97, 98, 99, 100, 101, 102, 103, 104, 105, 106, 107, 108, 109, 110, 111, 112, 113, 114, 115, 116, 117, 118, 119, 120, 121, 122]) := congrArg V.str (by decide +kernel)
def c_DIGITS : D := .str [48, 49, 50, 51, 52, 53, 54, 55, 56, 57]
theorem k_DIGITS : V.str "0123456789" = V.str (tx [48, 49, 50, 51, 52, 53, 54, 55, 56, 57]) := congrArg V.str (by decide +kernel)
def c_MOST_LETTERS : D := .int 8
theorem k_MOST_LETTERS : V.int 8 = V.int 8 := rfl
def c_NOTHING : D := .str [45]
theorem k_NOTHING : V.str "-" = V.str (tx [45]) := congrArg V.str (by decide +kernel)
def c_BETWEEN : D := .str [59, 32]
theorem k_BETWEEN : V.str "; " = V.str (tx [59, 32]) := congrArg V.str (by decide +kernel)
def c_BLANK : D := .str [32]
theorem k_BLANK : V.str " " = V.str (tx [32]) := congrArg V.str (by decide +kernel)
def c_PAIR : D := .int 2
theorem k_PAIR : V.int 2 = V.int 2 := rfl
def clsBody : Stmt → List Stmt
  | .ClassDef _ _ _ b _ _ _ _ _ _ _ => b
  | _ => []
abbrev sti_BadText : Stmt := (clsBody (top 2)).getD 0 (.Pass ⟨0, 0, 0, 0⟩)
def fi_piece : Nat → Option Nat := fun c => match c with | 0 => some 0 | _ => none
def cm_BadText : Nat → Option Bool := fun c => match c with | 0 => some true | _ => none
abbrev st_is_name : Stmt := top 7
abbrev n_is_name : List PySem.Str := ["value", "letter"]
def A_is_name : Nat → Bool := fun i => ([] : List Nat).contains i
def b_is_name : Sv := sSeq (sIf (eOr (eNot (eTest (eIsi [3] (eVar 0)))) (eNot (eChn (cmpB fun i j => decide (i ≤ j)) (cmpB fun i j => decide (i ≤ j)) (eC (.int 1)) (eCB lenD (eCons (eVar 0) (eNil))) (eC c_MOST_LETTERS)))) (sRet (eC (.bl false))) (sNext)) (sRet (eCB allD (eCons (eComp (eIt itemsD (eVar 0)) [1] (gtN 1) (eYes) (eOp inD (eVar 1) (eC c_LETTERS))) (eNil))))
def f_is_name : Fn := mkFn 2 1 A_is_name b_is_name
abbrev st_number_in : Stmt := top 8
abbrev n_number_in : List PySem.Str := ["word", "sign"]
def A_number_in : Nat → Bool := fun i => ([] : List Nat).contains i
def b_number_in : Sv := sSeq (sIf (eOr (eTest (eOp eqD (eVar 0) (eC (.str [])))) (eOr (eNot (eTest (eCB allD (eCons (eComp (eIt itemsD (eVar 0)) [1] (gtN 1) (eYes) (eOp inD (eVar 1) (eC c_DIGITS))) (eNil))))) (eAnd (eTest (eOp eqD (eOp ixD (eVar 0) (eC (.int 0))) (eC (.str [48])))) (eTest (eOp neD (eVar 0) (eC (.str [48]))))))) (sRet (eC .non)) (sNext)) (sRet (eCB intD (eCons (eVar 0) (eNil))))
def f_number_in : Fn := mkFn 2 1 A_number_in b_number_in
abbrev st_run_in : Stmt := top 14
abbrev n_run_in : List PySem.Str := ["piece", "words"]
def A_run_in : Nat → Bool := fun i => ([1] : List Nat).contains i
def b_run_in : Sv := sSeq (sAsg 1 (eSplit (eVar 0) (eC c_BLANK))) (sSeq (sIf (eOr (eTest (eOp neD (eCB lenD (eCons (eVar 1) (eNil))) (eC c_PAIR))) (eOr (eNot (eTest (eCall f_is_name (eCons (eOp ixD (eVar 1) (eC (.int 0))) (eNil))))) (eTest (eOp inD (eCall f_number_in (eCons (eOp ixD (eVar 1) (eC (.int 1))) (eNil))) (eTup (eCons (eC .non) (eCons (eC (.int 0)) (eNil)))))))) (sRet (eC .non)) (sNext)) (sRet (eTup (eCons (eFr (eOp ixD (eVar 1) (eC (.int 0)))) (eCons (eFr (eCall f_number_in (eCons (eOp ixD (eVar 1) (eC (.int 1))) (eNil)))) (eNil))))))
def f_run_in : Fn := mkFn 2 1 A_run_in b_run_in
abbrev st_runs_from : Stmt := top 15
abbrev n_runs_from : List PySem.Str := ["text", "found", "place", "piece", "run"]
def A_runs_from : Nat → Bool := fun i => ([1, 2, 3, 4] : List Nat).contains i
def b_runs_from : Sv := sSeq (sAsg 1 (eLst (eNil))) (sSeq (sFor (eIt enumD (eIf (eTest (eOp neD (eVar 0) (eC c_NOTHING))) (eSplit (eVar 0) (eC c_BETWEEN)) (eLst (eNil)))) (gtT 2 (gtsC (gtN 2) (gtsC (gtN 3) (gtsN)))) (sSeq (sAsg 4 (eCall f_run_in (eCons (eVar 3) (eNil)))) (sSeq (sIf (eOr (eTest (eOp isD (eVar 4) (eC .non))) (eAnd (eTest (eOp (cmpI fun i j => decide (j < i)) (eCB lenD (eCons (eVar 1) (eNil))) (eC (.int 0)))) (eTest (eOp eqD (eOp ixD (eVar 4) (eC (.int 0))) (eOp ixD (eOp ixD (eVar 1) (eUn negD (eC (.int 1)))) (eC (.int 0))))))) (sRaise 0 (eCons (eFr (eVar 2)) (eNil))) (sNext)) (sApp 1 (eVar 4))))) (sRet (eCB tupleD (eCons (eVar 1) (eNil)))))
def f_runs_from : Fn := mkFn 5 1 A_runs_from b_runs_from
abbrev st__law_box : Stmt := top 17
abbrev n__law_box : List PySem.Str := ["_law_script", "_law_k", "_law_cell"]
def A__law_box : Nat → Bool := fun i => ([2] : List Nat).contains i
def b__law_box : Sv := sSeq (sAsg 2 (eIf (eTest (eOp (cmpI fun i j => decide (i < j)) (eVar 1) (eCB lenD (eCons (eVar 0) (eNil))))) (eOp ixD (eVar 0) (eVar 1)) (eC (.int 0)))) (sRet (eLst (eCons (eOp mulD (eCB absD (eCons (eVar 2) (eNil))) (eCB intD (eCons (eOp (cmpI fun i j => decide (j ≤ i)) (eCB absD (eCons (eVar 2) (eNil))) (eOp powD (eC (.int 10)) (eC (.int 18)))) (eNil)))) (eCons (eOp addD (eOp addD (eOp modD (eCB intD (eCons (eVar 2) (eNil))) (eC (.int 2305843009213693951))) (eOp mulD (eC (.int 39373)) (eVar 1))) (eC (.int 82802))) (eCons (eC (.int 0)) (eNil))))))
def f__law_box : Fn := mkFn 3 2 A__law_box b__law_box
abbrev st__law_take : Stmt := top 18
abbrev n__law_take : List PySem.Str := ["_law_box_here", "_law_size_so", "_law_some", "_law_once", "_law_far", "_law_again"]
def A__law_take : Nat → Bool := fun i => ([2, 3, 4, 5] : List Nat).contains i
def b__law_take : Sv := sSeq (sIf (eTest (eOp (cmpI fun i j => decide (j < i)) (eOp ixD (eVar 0) (eC (.int 0))) (eC (.int 0)))) (sSeq (sAsg 2 (eOp modD (eCB intD (eCons (eOp ixD (eVar 0) (eC (.int 0))) (eNil))) (eVar 1))) (sSeq (sSetL 0 (eOp divD (eOp ixD (eVar 0) (eC (.int 0))) (eVar 1)) (eC (.int 0))) (sRet (eVar 2)))) (sNext)) (sSeq (sSetL 0 (eOp addD (eOp ixD (eVar 0) (eC (.int 2))) (eC (.int 1))) (eC (.int 2))) (sSeq (sAsg 3 (eOp modD (eCB intD (eCons (eOp mulD (eOp addD (eOp ixD (eVar 0) (eC (.int 1))) (eOp mulD (eC (.int 48271)) (eOp ixD (eVar 0) (eC (.int 2))))) (eOp addD (eC (.int 39373)) (eOp ixD (eVar 0) (eC (.int 2))))) (eNil))) (eC (.int 2147483647)))) (sSeq (sAsg 4 (eOp addD (eOp modD (eCB intD (eCons (eVar 3) (eNil))) (eC (.int 40009))) (eC (.int 7)))) (sSeq (sAsg 5 (eOp modD (eCB intD (eCons (eOp mulD (eOp addD (eOp addD (eVar 3) (eOp ixD (eVar 0) (eC (.int 2)))) (eOp divD (eOp ixD (eVar 0) (eC (.int 1))) (eC (.int 1000003)))) (eVar 4)) (eNil))) (eC (.int 2147483629)))) (sRet (eOp modD (eCB intD (eCons (eOp divD (eOp modD (eCB intD (eCons (eOp addD (eOp mulD (eVar 5) (eC (.int 48271))) (eVar 3)) (eNil))) (eC (.int 2147483587))) (eC (.int 64))) (eNil))) (eVar 1)))))))
def f__law_take : Fn := mkFn 6 2 A__law_take b__law_take
abbrev st__law_cells : Stmt := top 19
abbrev n__law_cells : List PySem.Str := ["_law_script", "_law_top_so", "_law_cells_so", "_law_k", "_law_cell", "_law_at_so"]
def A__law_cells : Nat → Bool := fun i => ([2, 3, 4, 5] : List Nat).contains i
def b__law_cells : Sv := sSeq (sAsg 2 (eOrT (eCB listD (eCons (eSl (eVar 0) (eoN) (eoS (eVar 1))) (eNil))) (eLst (eCons (eC (.int 0)) (eNil))))) (sSeq (sFor (eIt enumD (eSl (eVar 0) (eoS (eVar 1)) (eoS (eC (.int 63))))) (gtT 2 (gtsC (gtN 3) (gtsC (gtN 4) (gtsN)))) (sSeq (sAsg 5 (eOp modD (eCB intD (eCons (eVar 3) (eNil))) (eVar 1))) (sSetL 2 (eOp addD (eOp ixD (eVar 2) (eVar 5)) (eOp mulD (eVar 4) (eOp addD (eVar 3) (eC (.int 2))))) (eVar 5)))) (sRet (eVar 2)))
def f__law_cells : Fn := mkFn 6 2 A__law_cells b__law_cells
abbrev st__law_of : Stmt := top 20
abbrev n__law_of : List PySem.Str := ["_law_box_here", "_law_goods_so"]
def A__law_of : Nat → Bool := fun i => ([] : List Nat).contains i
def b__law_of : Sv := sRet (eOp ixD (eVar 1) (eCall f__law_take (eCons (eVar 0) (eCons (eCB lenD (eCons (eVar 1) (eNil))) (eNil)))))
def f__law_of : Fn := mkFn 2 2 A__law_of b__law_of
abbrev st__law_pick : Stmt := top 21
abbrev n__law_pick : List PySem.Str := ["_law_box_here", "_law_goods_so", "_law_count_so", "_law_pool_so", "_law_found", "_law_turn"]
def A__law_pick : Nat → Bool := fun i => ([3, 4, 5] : List Nat).contains i
def b__law_pick : Sv := sSeq (sPar [3, 4] (eCons (eCB listD (eCons (eVar 1) (eNil))) (eCons (eLst (eNil)) (eNil)))) (sSeq (sFor (eIt rng1 (eCB minD (eCons (eCB intD (eCons (eVar 2) (eNil))) (eCons (eCB lenD (eCons (eVar 3) (eNil))) (eNil))))) (gtN 5) (sApp 4 (ePopAt 3 (eCall f__law_take (eCons (eVar 0) (eCons (eCB lenD (eCons (eVar 3) (eNil))) (eNil))))))) (sRet (eVar 4)))
def f__law_pick : Fn := mkFn 6 3 A__law_pick b__law_pick
abbrev st__law_same : Stmt := top 22
abbrev n__law_same : List PySem.Str := ["_law_got", "_law_due", "_law_mine", "_law_its"]
def A__law_same : Nat → Bool := fun i => ([] : List Nat).contains i
def b__law_same (fs : Fn) : Sv := sSeq (sIf (eTest (eIsi [5, 4] (eVar 1))) (sSeq (sIf (eTest (eOp neD (eIsi [5] (eVar 0)) (eIsi [5] (eVar 1)))) (sRet (eC (.bl false))) (sNext)) (sSeq (sIf (eTest (eOp neD (eIsi [4] (eVar 0)) (eIsi [4] (eVar 1)))) (sRet (eC (.bl false))) (sNext)) (sRet (eAndV (eOp eqD (eCB lenD (eCons (eVar 0) (eNil))) (eCB lenD (eCons (eVar 1) (eNil)))) (eCB allD (eCons (eComp (eZip (eVar 0) (eVar 1)) [2, 3] (gtT 2 (gtsC (gtN 2) (gtsC (gtN 3) (gtsN)))) (eYes) (eCall fs (eCons (eVar 2) (eCons (eVar 3) (eNil))))) (eNil))))))) (sNext)) (sSeq (sIf (eOr (eTest (eOp isD (eVar 1) (eC .non))) (eTest (eIsi [1, 3] (eVar 1)))) (sRet (eAndV (eOp eqD (eVar 0) (eVar 1)) (eAndV (eOp eqD (eIsi [1] (eVar 0)) (eIsi [1] (eVar 1))) (eOp eqD (eOp isD (eVar 0) (eC .non)) (eOp isD (eVar 1) (eC .non)))))) (sNext)) (sRet (eAndV (eIsi [2] (eVar 0)) (eAndV (eNotV (eIsi [1] (eVar 0))) (eOp eqD (eVar 0) (eVar 1))))))
def f__law_same : Nat → Fn
  | 0 => fun _ => .bad
  | n + 1 => mkFn 4 2 A__law_same (b__law_same (f__law_same n))
abbrev st__law_kinds : Stmt := top 23
abbrev n__law_kinds : List PySem.Str := ["_law_box_here", "_law_pools"]
def A__law_kinds : Nat → Bool := fun i => ([1] : List Nat).contains i
def b__law_kinds : Sv := sSeq (sAsg 1 (eLst (eCons (eFr (eLst (eCons (eC (.str [97])) (eCons (eC (.str [97, 98])) (eCons (eC (.str [98])) (eCons (eC (.str [120])) (eNil))))))) (eCons (eFr (eLst (eCons (eC (.str [98, 97, 103])) (eCons (eC (.str [98, 97, 103, 115])) (eCons (eC (.str [97, 110, 100])) (eCons (eC (.str [110, 111])) (eNil))))))) (eCons (eFr (eLst (eCons (eC (.str [97, 98, 99, 100, 101, 102, 103, 104])) (eCons (eC (.str [97, 98, 99, 100, 101, 102, 103, 105])) (eCons (eC (.str [122])) (eCons (eC (.str [122, 122])) (eNil))))))) (eNil)))))) (sRet (eCall f__law_pick (eCons (eVar 0) (eCons (eCall f__law_of (eCons (eVar 0) (eCons (eVar 1) (eNil)))) (eCons (eOp addD (eC (.int 1)) (eCall f__law_take (eCons (eVar 0) (eCons (eC (.int 4)) (eNil))))) (eNil))))))
def f__law_kinds : Fn := mkFn 2 1 A__law_kinds b__law_kinds
abbrev st__law_bits : Stmt := top 24
abbrev n__law_bits : List PySem.Str := ["_law_box_here", "_law_tags", "_law_most_so", "_law_found", "_law_turn", "_law_tag"]
def A__law_bits : Nat → Bool := fun i => ([3, 4, 5] : List Nat).contains i
def b__law_bits : Sv := sSeq (sAsg 3 (eLst (eNil))) (sSeq (sFor (eIt rng1 (eCall f__law_take (eCons (eVar 0) (eCons (eOp addD (eVar 2) (eC (.int 1))) (eNil))))) (gtN 4) (sSeq (sAsg 5 (eCall f__law_of (eCons (eVar 0) (eCons (eVar 1) (eNil))))) (sIf (eOr (eTest (eOp eqD (eVar 3) (eLst (eNil)))) (eTest (eOp neD (eOp ixD (eOp ixD (eVar 3) (eUn negD (eC (.int 1)))) (eC (.int 0))) (eVar 5)))) (sApp 3 (eTup (eCons (eFr (eVar 5)) (eCons (eFr (eCall f__law_of (eCons (eVar 0) (eCons (eLst (eCons (eC (.int 1)) (eCons (eC (.int 1)) (eCons (eC (.int 2)) (eCons (eC (.int 3)) (eCons (eC (.int 10)) (eCons (eOp addD (eOp powD (eC (.int 10)) (eC (.int 19))) (eCall f__law_take (eCons (eVar 0) (eCons (eC (.int 9)) (eNil))))) (eNil)))))))) (eNil))))) (eNil))))) (sNext)))) (sRet (eCB tupleD (eCons (eVar 3) (eNil)))))
def f__law_bits : Fn := mkFn 6 3 A__law_bits b__law_bits
abbrev st__law_bit_words : Stmt := top 25
abbrev n__law_bit_words : List PySem.Str := ["_law_bits_so", "_law_own"]
def A__law_bit_words : Nat → Bool := fun i => ([] : List Nat).contains i
def b__law_bit_words : Sv := sRet (eIf (eTest (eOp neD (eVar 0) (eTup (eNil)))) (eJoin (eC (.str [59, 32])) (eComp (eIt itemsD (eVar 0)) [1] (gtN 1) (eYes) (eOp addD (eOp addD (eOp ixD (eVar 1) (eC (.int 0))) (eC (.str [32]))) (eCB strD (eCons (eOp ixD (eVar 1) (eC (.int 1))) (eNil)))))) (eC (.str [45])))
def f__law_bit_words : Fn := mkFn 2 1 A__law_bit_words b__law_bit_words
abbrev st__law_heard : Stmt := top 26
abbrev n__law_heard : List PySem.Str := ["_law_flat", "_law_caught", "_law_told_so", "error_so"]
def A__law_heard : Nat → Bool := fun i => ([1, 2, 3] : List Nat).contains i
def b__law_heard : Sv := sSeq (sAsgG (gtT 2 (gtsC (gtN 1) (gtsC (gtN 2) (gtsN)))) (eTup (eCons (eC .non) (eCons (eC .non) (eNil))))) (sSeq (sTry 3 cm_BadText (sAsg 2 (eCall f_runs_from (eCons (eVar 0) (eNil)))) (sAsg 1 (eVar 3))) (sRet (eIf (eTest (eOp isD (eVar 1) (eC .non))) (eVar 2) (eLst (eCons (eXf fi_piece (eVar 1)) (eNil))))))
def f__law_heard : Fn := mkFn 4 1 A__law_heard b__law_heard
abbrev st__law_by_hand_right : Stmt := top 27
abbrev n__law_by_hand_right : List PySem.Str := ["_law_wrong", "_law_got", "_law_flat", "_law_at_so"]
def A__law_by_hand_right : Nat → Bool := fun i => ([0, 1] : List Nat).contains i
def b__law_by_hand_right : Sv := sSeq (sAsg 0 (eLst (eCons (eTup (eCons (eC (.str [])) (eCons (eC (.int 0)) (eNil)))) (eCons (eTup (eCons (eC (.str [32])) (eCons (eC (.int 0)) (eNil)))) (eCons (eTup (eCons (eC (.str [97])) (eCons (eC (.int 0)) (eNil)))) (eCons (eTup (eCons (eC (.str [97, 32])) (eCons (eC (.int 0)) (eNil)))) (eCons (eTup (eCons (eC (.str [51])) (eCons (eC (.int 0)) (eNil)))) (eNil)))))))) (sSeq (sAsg 0 (eOp addD (eVar 0) (eLst (eCons (eTup (eCons (eC (.str [97, 32, 48])) (eCons (eC (.int 0)) (eNil)))) (eCons (eTup (eCons (eC (.str [97, 32, 48, 51])) (eCons (eC (.int 0)) (eNil)))) (eCons (eTup (eCons (eC (.str [97, 32, 45, 51])) (eCons (eC (.int 0)) (eNil)))) (eCons (eTup (eCons (eC (.str [97, 32, 43, 51])) (eCons (eC (.int 0)) (eNil)))) (eCons (eTup (eCons (eC (.str [97, 32, 120])) (eCons (eC (.int 0)) (eNil)))) (eNil))))))))) (sSeq (sAsg 0 (eOp addD (eVar 0) (eLst (eCons (eTup (eCons (eC (.str [97, 32, 32, 51])) (eCons (eC (.int 0)) (eNil)))) (eCons (eTup (eCons (eC (.str [32, 97, 32, 51])) (eCons (eC (.int 0)) (eNil)))) (eCons (eTup (eCons (eC (.str [97, 32, 51, 32])) (eCons (eC (.int 0)) (eNil)))) (eCons (eTup (eCons (eC (.str [65, 32, 51])) (eCons (eC (.int 0)) (eNil)))) (eNil)))))))) (sSeq (sAsg 0 (eOp addD (eVar 0) (eLst (eCons (eTup (eCons (eC (.str [97, 49, 32, 51])) (eCons (eC (.int 0)) (eNil)))) (eCons (eTup (eCons (eC (.str [97, 98, 99, 100, 101, 102, 103, 104, 105, 32, 51])) (eCons (eC (.int 0)) (eNil)))) (eCons (eTup (eCons (eC (.str [51, 32, 97])) (eCons (eC (.int 0)) (eNil)))) (eCons (eTup (eCons (eC (.str [97, 51])) (eCons (eC (.int 0)) (eNil)))) (eNil)))))))) (sSeq (sAsg 0 (eOp addD (eVar 0) (eLst (eCons (eTup (eCons (eC (.str [97, 32, 51, 59])) (eCons (eC (.int 0)) (eNil)))) (eCons (eTup (eCons (eC (.str [97, 32, 51, 59, 32])) (eCons (eC (.int 1)) (eNil)))) (eCons (eTup (eCons (eC (.str [97, 32, 51, 59, 98, 32, 49])) (eCons (eC (.int 0)) (eNil)))) (eCons (eTup (eCons (eC (.str [97, 32, 51, 44, 32, 98, 32, 49])) (eCons (eC (.int 0)) (eNil)))) (eNil)))))))) (sSeq (sAsg 0 (eOp addD (eVar 0) (eLst (eCons (eTup (eCons (eC (.str [97, 32, 51, 59, 32, 45])) (eCons (eC (.int 1)) (eNil)))) (eCons (eTup (eCons (eC (.str [45, 59, 32, 97, 32, 51])) (eCons (eC (.int 0)) (eNil)))) (eCons (eTup (eCons (eC (.str [45, 45])) (eCons (eC (.int 0)) (eNil)))) (eNil))))))) (sSeq (sAsg 0 (eOp addD (eVar 0) (eLst (eCons (eTup (eCons (eC (.str [97, 32, 51, 59, 32, 97, 32, 49])) (eCons (eC (.int 1)) (eNil)))) (eCons (eTup (eCons (eC (.str [97, 32, 51, 59, 32, 98, 32, 49, 59, 32, 98, 32, 49])) (eCons (eC (.int 2)) (eNil)))) (eCons (eTup (eCons (eC (.str [97, 32, 51, 59, 32, 98, 32, 49, 59, 32, 97, 32, 48])) (eCons (eC (.int 2)) (eNil)))) (eNil))))))) (sSeq (sAsg 0 (eOp addD (eVar 0) (eLst (eCons (eTup (eCons (eC (.str [97, 32, 51, 59, 32, 98, 59, 32, 97, 32, 49])) (eCons (eC (.int 1)) (eNil)))) (eCons (eTup (eCons (eC (.str [97, 32, 51, 59, 32, 98, 32, 49, 59, 32, 97, 32, 49, 59, 32, 97, 32, 50])) (eCons (eC (.int 3)) (eNil)))) (eNil)))))) (sSeq (sAsg 0 (eOp addD (eVar 0) (eLst (eCons (eTup (eCons (eC (.str [97, 32, 51, 59, 32, 98, 32, 49, 32, 99, 32, 50])) (eCons (eC (.int 1)) (eNil)))) (eCons (eTup (eCons (eC (.str [97, 32, 51, 46, 48])) (eCons (eC (.int 0)) (eNil)))) (eCons (eTup (eCons (eC (.str [97, 32, 49, 95, 48])) (eCons (eC (.int 0)) (eNil)))) (eNil))))))) (sSeq (sAsg 0 (eOp addD (eVar 0) (eLst (eCons (eTup (eCons (eC (.str [97, 32, 51, 59, 32, 98, 32, 49, 59, 32, 32, 97, 32, 50])) (eCons (eC (.int 2)) (eNil)))) (eCons (eTup (eCons (eC (.str [97, 32, 98, 32, 51])) (eCons (eC (.int 0)) (eNil)))) (eCons (eTup (eCons (eC (.str [97, 32, 51, 59, 32, 97, 98])) (eCons (eC (.int 1)) (eNil)))) (eNil))))))) (sSeq (sAsg 1 (eComp (eIt itemsD (eVar 0)) [2, 3] (gtT 2 (gtsC (gtN 2) (gtsC (gtN 3) (gtsN)))) (eYes) (eCall f__law_heard (eCons (eVar 2) (eNil))))) (sSeq (sIf (eNot (eTest (eCall (f__law_same 8) (eCons (eVar 1) (eCons (eComp (eIt itemsD (eVar 0)) [2, 3] (gtT 2 (gtsC (gtN 2) (gtsC (gtN 3) (gtsN)))) (eYes) (eLst (eCons (eFr (eVar 3)) (eNil)))) (eNil)))))) (sRet (eC (.bl false))) (sNext)) (sSeq (sAsg 1 (eLst (eCons (eFr (eCall f__law_heard (eCons (eC (.str [45])) (eNil)))) (eCons (eFr (eCall f__law_heard (eCons (eC (.str [97, 32, 49, 48, 59, 32, 97, 98, 32, 49])) (eNil)))) (eCons (eFr (eCall f__law_heard (eCons (eC (.str [97, 98, 99, 100, 101, 102, 103, 104, 32, 49])) (eNil)))) (eNil)))))) (sRet (eCall (f__law_same 8) (eCons (eVar 1) (eCons (eLst (eCons (eTup (eNil)) (eCons (eTup (eCons (eTup (eCons (eC (.str [97])) (eCons (eC (.int 10)) (eNil)))) (eCons (eTup (eCons (eC (.str [97, 98])) (eCons (eC (.int 1)) (eNil)))) (eNil)))) (eCons (eTup (eCons (eTup (eCons (eC (.str [97, 98, 99, 100, 101, 102, 103, 104])) (eCons (eC (.int 1)) (eNil)))) (eNil))) (eNil))))) (eNil)))))))))))))))))
def f__law_by_hand_right : Fn := mkFn 4 0 A__law_by_hand_right b__law_by_hand_right
abbrev st__law_bent : Stmt := top 28
abbrev n__law_bent : List PySem.Str := ["_law_box_here", "_law_piece_so", "_law_way_so"]
def A__law_bent : Nat → Bool := fun i => ([2] : List Nat).contains i
def b__law_bent : Sv := sSeq (sAsg 2 (eCall f__law_take (eCons (eVar 0) (eCons (eC (.int 4)) (eNil))))) (sSeq (sIf (eTest (eOp eqD (eVar 2) (eC (.int 0)))) (sRet (eOp addD (eVar 1) (eCall f__law_of (eCons (eVar 0) (eCons (eLst (eCons (eC (.str [120])) (eCons (eC (.str [59])) (eCons (eC (.str [32, 49])) (eCons (eC (.str [32])) (eCons (eC (.str [44])) (eNil))))))) (eNil)))))) (sNext)) (sSeq (sIf (eTest (eOp eqD (eVar 2) (eC (.int 1)))) (sRet (eReplOf f__law_take 1 0 [32] [[32, 32], [], [95], [32, 48]])) (sNext)) (sSeq (sIf (eTest (eOp eqD (eVar 2) (eC (.int 2)))) (sRet (eCall f__law_of (eCons (eVar 0) (eCons (eLst (eCons (eC (.str [])) (eCons (eC (.str [110, 111, 110, 101])) (eCons (eC (.str [110, 111, 110, 101, 32, 48])) (eCons (eC (.str [53, 32, 110, 111, 110, 101])) (eCons (eC (.str [53])) (eNil))))))) (eNil))))) (sNext)) (sRet (eOp addD (eCall f__law_of (eCons (eVar 0) (eCons (eLst (eCons (eC (.str [32])) (eCons (eC (.str [43])) (eCons (eC (.str [65])) (eNil))))) (eNil)))) (eVar 1))))))
def f__law_bent : Fn := mkFn 3 2 A__law_bent b__law_bent
abbrev st__law_case_right : Stmt := top 29
abbrev n__law_case_right : List PySem.Str := ["_law_box_here", "_law_bits_so", "_law_pieces", "_law_k"]
def A__law_case_right : Nat → Bool := fun i => ([1, 2, 3] : List Nat).contains i
def b__law_case_right : Sv := sSeq (sAsg 1 (eCall f__law_bits (eCons (eVar 0) (eCons (eCall f__law_kinds (eCons (eVar 0) (eNil))) (eCons (eC (.int 6)) (eNil)))))) (sSeq (sIf (eTest (eOp eqD (eVar 1) (eTup (eNil)))) (sRet (eCall (f__law_same 8) (eCons (eCall f__law_heard (eCons (eC (.str [45])) (eNil))) (eCons (eTup (eNil)) (eNil))))) (sNext)) (sSeq (sAsg 2 (eSplit (eCall f__law_bit_words (eCons (eVar 1) (eNil))) (eC (.str [59, 32])))) (sSeq (sAsg 3 (eCall f__law_take (eCons (eVar 0) (eCons (eCB lenD (eCons (eVar 2) (eNil))) (eNil))))) (sSeq (sSetL 2 (eCall f__law_bent (eCons (eVar 0) (eCons (eOp ixD (eVar 2) (eVar 3)) (eNil)))) (eVar 3)) (sRet (eCall (f__law_same 8) (eCons (eLst (eCons (eFr (eCall f__law_heard (eCons (eJoin (eC (.str [59, 32])) (eVar 2)) (eNil)))) (eCons (eFr (eCall f__law_heard (eCons (eCall f__law_bit_words (eCons (eVar 1) (eNil))) (eNil)))) (eNil)))) (eCons (eLst (eCons (eFr (eLst (eCons (eFr (eVar 3)) (eNil)))) (eCons (eFr (eVar 1)) (eNil)))) (eNil)))))))))
def f__law_case_right : Fn := mkFn 4 1 A__law_case_right b__law_case_right
abbrev st__law_right : Stmt := top 30
abbrev n__law_right : List PySem.Str := ["_law_box_here", "_law_turn"]
def A__law_right : Nat → Bool := fun i => ([] : List Nat).contains i
def b__law_right : Sv := sRet (eAndV (eCall f__law_by_hand_right eNil) (eCB allD (eCons (eComp (eIt rng1 (eC (.int 6))) [1] (gtN 1) (eYes) (eCall f__law_case_right (eCons (eVar 0) (eNil)))) (eNil))))
def f__law_right : Fn := mkFn 2 1 A__law_right b__law_right
abbrev st_law : Stmt := top 31
abbrev n_law : List PySem.Str := ["_law_script", "_law_cells_here", "_law_k"]
def A_law : Nat → Bool := fun i => ([1] : List Nat).contains i
def b_law : Sv := sSeq (sAsg 1 (eCall f__law_cells (eCons (eVar 0) (eCons (eC (.int 3)) (eNil))))) (sRet (eCB allD (eCons (eComp (eIt rng1 (eCB lenD (eCons (eVar 1) (eNil)))) [2] (gtN 2) (eYes) (eCall f__law_right (eCons (eCall f__law_box (eCons (eVar 1) (eCons (eVar 2) (eNil)))) (eNil)))) (eNil))))
def f_law : Fn := mkFn 3 1 A_law b_law
structure Tx (K : PySem.W.Frag) (mg : PySem.Str → Option Value) where
  a_BadText : Addr
  ai_BadText : Addr
  fdi_BadText : FuncData
  a_is_name : Addr
  fd_is_name : FuncData
  a_number_in : Addr
  fd_number_in : FuncData
  a_run_in : Addr
  fd_run_in : FuncData
  a_runs_from : Addr
  fd_runs_from : FuncData
  a__law_box : Addr
  fd__law_box : FuncData
  a__law_take : Addr
  fd__law_take : FuncData
  a__law_cells : Addr
  fd__law_cells : FuncData
  a__law_of : Addr
  fd__law_of : FuncData
  a__law_pick : Addr
  fd__law_pick : FuncData
  a__law_same : Addr
  fd__law_same : FuncData
  a__law_kinds : Addr
  fd__law_kinds : FuncData
  a__law_bits : Addr
  fd__law_bits : FuncData
  a__law_bit_words : Addr
  fd__law_bit_words : FuncData
  a__law_heard : Addr
  fd__law_heard : FuncData
  a__law_by_hand_right : Addr
  fd__law_by_hand_right : FuncData
  a__law_bent : Addr
  fd__law_bent : FuncData
  a__law_case_right : Addr
  fd__law_case_right : FuncData
  a__law_right : Addr
  fd__law_right : FuncData
  a_law : Addr
  fd_law : FuncData
  F_is_name : Fun K "is_name" "is_name" st_is_name a_is_name fd_is_name
  g_is_name : mg "is_name" = some (.ref a_is_name)
  b_is_name : Binds K fd_is_name ["value"] []
  F_number_in : Fun K "number_in" "number_in" st_number_in a_number_in fd_number_in
  g_number_in : mg "number_in" = some (.ref a_number_in)
  b_number_in : Binds K fd_number_in ["word"] []
  F_run_in : Fun K "run_in" "run_in" st_run_in a_run_in fd_run_in
  g_run_in : mg "run_in" = some (.ref a_run_in)
  b_run_in : Binds K fd_run_in ["piece"] []
  F_runs_from : Fun K "runs_from" "runs_from" st_runs_from a_runs_from fd_runs_from
  g_runs_from : mg "runs_from" = some (.ref a_runs_from)
  b_runs_from : Binds K fd_runs_from ["text"] []
  F__law_box : Fun K "_law_box" "_law_box" st__law_box a__law_box fd__law_box
  g__law_box : mg "_law_box" = some (.ref a__law_box)
  b__law_box : Binds K fd__law_box ["_law_script", "_law_k"] []
  F__law_take : Fun K "_law_take" "_law_take" st__law_take a__law_take fd__law_take
  g__law_take : mg "_law_take" = some (.ref a__law_take)
  b__law_take : Binds K fd__law_take ["_law_box_here", "_law_size_so"] []
  F__law_cells : Fun K "_law_cells" "_law_cells" st__law_cells a__law_cells fd__law_cells
  g__law_cells : mg "_law_cells" = some (.ref a__law_cells)
  b__law_cells : Binds K fd__law_cells ["_law_script", "_law_top_so"] []
  F__law_of : Fun K "_law_of" "_law_of" st__law_of a__law_of fd__law_of
  g__law_of : mg "_law_of" = some (.ref a__law_of)
  b__law_of : Binds K fd__law_of ["_law_box_here", "_law_goods_so"] []
  F__law_pick : Fun K "_law_pick" "_law_pick" st__law_pick a__law_pick fd__law_pick
  g__law_pick : mg "_law_pick" = some (.ref a__law_pick)
  b__law_pick : Binds K fd__law_pick ["_law_box_here", "_law_goods_so", "_law_count_so"] []
  F__law_same : Fun K "_law_same" "_law_same" st__law_same a__law_same fd__law_same
  g__law_same : mg "_law_same" = some (.ref a__law_same)
  b__law_same : Binds K fd__law_same ["_law_got", "_law_due"] []
  F__law_kinds : Fun K "_law_kinds" "_law_kinds" st__law_kinds a__law_kinds fd__law_kinds
  g__law_kinds : mg "_law_kinds" = some (.ref a__law_kinds)
  b__law_kinds : Binds K fd__law_kinds ["_law_box_here"] []
  F__law_bits : Fun K "_law_bits" "_law_bits" st__law_bits a__law_bits fd__law_bits
  g__law_bits : mg "_law_bits" = some (.ref a__law_bits)
  b__law_bits : Binds K fd__law_bits ["_law_box_here", "_law_tags", "_law_most_so"] []
  F__law_bit_words : Fun K "_law_bit_words" "_law_bit_words" st__law_bit_words a__law_bit_words fd__law_bit_words
  g__law_bit_words : mg "_law_bit_words" = some (.ref a__law_bit_words)
  b__law_bit_words : Binds K fd__law_bit_words ["_law_bits_so"] []
  F__law_heard : Fun K "_law_heard" "_law_heard" st__law_heard a__law_heard fd__law_heard
  g__law_heard : mg "_law_heard" = some (.ref a__law_heard)
  b__law_heard : Binds K fd__law_heard ["_law_flat"] []
  F__law_by_hand_right : Fun K "_law_by_hand_right" "_law_by_hand_right" st__law_by_hand_right a__law_by_hand_right fd__law_by_hand_right
  g__law_by_hand_right : mg "_law_by_hand_right" = some (.ref a__law_by_hand_right)
  b__law_by_hand_right : Binds K fd__law_by_hand_right [] []
  F__law_bent : Fun K "_law_bent" "_law_bent" st__law_bent a__law_bent fd__law_bent
  g__law_bent : mg "_law_bent" = some (.ref a__law_bent)
  b__law_bent : Binds K fd__law_bent ["_law_box_here", "_law_piece_so"] []
  F__law_case_right : Fun K "_law_case_right" "_law_case_right" st__law_case_right a__law_case_right fd__law_case_right
  g__law_case_right : mg "_law_case_right" = some (.ref a__law_case_right)
  b__law_case_right : Binds K fd__law_case_right ["_law_box_here"] []
  F__law_right : Fun K "_law_right" "_law_right" st__law_right a__law_right fd__law_right
  g__law_right : mg "_law_right" = some (.ref a__law_right)
  b__law_right : Binds K fd__law_right ["_law_box_here"] []
  F_law : Fun K "law" "law" st_law a_law fd_law
  g_law : mg "law" = some (.ref a_law)
  b_law : Binds K fd_law ["_law_script"] []
  g_BadText : mg "BadText" = some (.ref a_BadText)
  ox_BadText : OexC K a_BadText
  ix_BadText : PySem.W.findIn K (.ref a_BadText) "__init__" = some (some (.ref ai_BadText))
  tx_BadText : PySem.W.typeIn K (.ref ai_BadText) = some (.type "function")
  FI_BadText : Fun K "__init__" "BadText.__init__" sti_BadText ai_BadText fdi_BadText
  bx_BadText : Binds K fdi_BadText ["self", "piece"] []
  xc_BadText : XfC K a_BadText
  no_BadText_piece : PySem.W.findIn K (.ref a_BadText) "piece" = some none
  em_BadText_BadText : PySem.W.exmOne K (.ref a_BadText) (.ref a_BadText) = some true
  m_abs : mg "abs" = none
  m_all : mg "all" = none
  m_bool : mg "bool" = none
  m_enumerate : mg "enumerate" = none
  m_int : mg "int" = none
  m_isinstance : mg "isinstance" = none
  m_len : mg "len" = none
  m_list : mg "list" = none
  m_min : mg "min" = none
  m_range : mg "range" = none
  m_str : mg "str" = none
  m_tuple : mg "tuple" = none
  m_zip : mg "zip" = none
  c_LETTERS : ∃ u, mg "LETTERS" = some u ∧ RelV (V.str "abcdefghijklmnopqrstuvwxyz") u
  c_DIGITS : ∃ u, mg "DIGITS" = some u ∧ RelV (V.str "0123456789") u
  c_MOST_LETTERS : ∃ u, mg "MOST_LETTERS" = some u ∧ RelV (V.int 8) u
  c_NOTHING : ∃ u, mg "NOTHING" = some u ∧ RelV (V.str "-") u
  c_BETWEEN : ∃ u, mg "BETWEEN" = some u ∧ RelV (V.str "; ") u
  c_BLANK : ∃ u, mg "BLANK" = some u ∧ RelV (V.str " ") u
  c_PAIR : ∃ u, mg "PAIR" = some u ∧ RelV (V.int 2) u
section
variable {P : Program} {w : World} {K : PySem.W.Frag} {mg : PySem.Str → Option Value} {base : Heap}
def G (T : Tx K mg) : Cfg := ⟨K, fun c => match c with | 0 => T.a_BadText | _ => 0, fun c => match c with | 0 => ["piece"] | _ => []⟩
theorem Tx.nm_BadText (T : Tx K mg) : ∀ {X : Cx}, X.mg = mg → Gl X "BadText" → Names X "BadText" (.ref T.a_BadText) := fun {X} h g => ⟨g, by decide, .inl (by rw [h]; exact T.g_BadText)⟩
theorem Tx.cm_BadText (T : Tx K mg) : ∀ k b, cm_BadText k = some b → PySem.W.exmOne (G T).K (.ref ((G T).cls k)) (.ref T.a_BadText) = some b
  | 0, b, h => by cases h; exact T.em_BadText_BadText
  | k + 1, b, h => by cases h
theorem Tx.xf_piece (T : Tx K mg) : ∀ c j, fi_piece c = some j → XfC (G T).K ((G T).cls c) ∧ PySem.W.findIn (G T).K (.ref ((G T).cls c)) "piece" = some none ∧ ∀ (vs : List V) v, vs[j]? = some v → (((G T).xf c).zip vs).lookup ("piece" : Str) = some v
  | 0, j, h => by
    cases h
    refine ⟨T.xc_BadText, T.no_BadText_piece, fun vs v e => ?_⟩
    cases vs with
    | nil => cases e
    | cons x vs => cases e; rfl
  | c + 1, j, h => by cases h
theorem sci_BadText : FnScope ["self", "piece"] ["self", "piece"] (defScope sti_BadText) := ⟨rfl, rfl, rfl, by decide +kernel, rfl, by decide +kernel, by decide +kernel⟩
theorem di_BadText (T : Tx K mg) : FnOk P w K mg base (L2.CX P w) 1 T.ai_BadText T.fdi_BadText ["self", "piece"] (spInit T.a_BadText ["piece"]) := init_mk T.ox_BadText T.no_BadText_piece T.FI_BadText sci_BadText rfl (Or.inl rfl) (Or.inl rfl) (by decide) (by decide) (fun _ => rfl)
theorem sc_is_name : FnScope n_is_name ["value"] (defScope st_is_name) := ⟨rfl, rfl, rfl, by decide +kernel, rfl, by decide +kernel, by decide +kernel⟩
theorem d_is_name (T : Tx K mg) : FnOk P w K mg base (L2.CX P w) 1 T.a_is_name T.fd_is_name ["value"] (spOf (G T) 1 f_is_name) :=
  fn_mk2 (k := 0) (A := A_is_name) (body := b_is_name) T.F_is_name sc_is_name rfl rfl rfl (by decide) rfl (fun cdv Ar outer s H E hr => (sC (sI (eW (eOr2 (eNotT (eV (eIsK 3 (by decide) rfl T.m_isinstance (ev 0) (pty_str T.m_str)))) (eOr1 (eNotT (eChnT op_le op_le cmpB_ok cmpB_ok eI (eF call_lenX lenD_ok T.m_len (aC (ev 0) aN)) (eGc (d := c_MOST_LETTERS) T.c_MOST_LETTERS (fun _ => k_MOST_LETTERS))))))) (s1' (sR eB)) sN) (s1' (sR (eF (cr_all rfl) allD_ok T.m_all (aC (eLc [1] rfl sc_is_name.nd (blkOk_by (N := n_is_name) (sc := defScope st_is_name) (own := [("letter", 1)]) (by decide +kernel)) rfl (iSq rfl (ev 0)) (fun _ _ _ _ _ => (gN 1 sc_is_name.nd rfl)) (fun _ _ _ _ _ => tN) (fun _ _ _ _ _ => (eCmp op_inX inD_ok (ev 1) (eGc (d := c_LETTERS) T.c_LETTERS (fun _ => k_LETTERS))))) aN)))))) rfl
theorem sc_number_in : FnScope n_number_in ["word"] (defScope st_number_in) := ⟨rfl, rfl, rfl, by decide +kernel, rfl, by decide +kernel, by decide +kernel⟩
theorem d_number_in (T : Tx K mg) : FnOk P w K mg base (L2.CX P w) 1 T.a_number_in T.fd_number_in ["word"] (spOf (G T) 1 f_number_in) :=
  fn_mk2 (k := 0) (A := A_number_in) (body := b_number_in) T.F_number_in sc_number_in rfl rfl rfl (by decide) rfl (fun cdv Ar outer s H E hr => (sC (sI (eW (eOr2 (eCmpT (op_eqD hr.units) eqD_ok (ev 0) (eS [])) (eOr2 (eNotT (eV (eF (cr_all rfl) allD_ok T.m_all (aC (eLc [1] rfl sc_number_in.nd (blkOk_by (N := n_number_in) (sc := defScope st_number_in) (own := [("sign", 1)]) (by decide +kernel)) rfl (iSq rfl (ev 0)) (fun _ _ _ _ _ => (gN 1 sc_number_in.nd rfl)) (fun _ _ _ _ _ => tN) (fun _ _ _ _ _ => (eCmp op_inX inD_ok (ev 1) (eGc (d := c_DIGITS) T.c_DIGITS (fun _ => k_DIGITS))))) aN)))) (eOr1 (eW (eAnd2 (eCmpT (op_eqD hr.units) eqD_ok (eIx rfl (ev 0) eI) (eS [48])) (eAnd1 (eCmpT (op_neD hr.units) neD_ok (ev 0) (eS [48]))))))))) (s1' (sR eN)) sN) (s1' (sR (eFT call_intX intD_ok T.m_int (aC (ev 0) aN)))))) rfl
theorem sc_run_in : FnScope n_run_in ["piece"] (defScope st_run_in) := ⟨rfl, rfl, rfl, by decide +kernel, rfl, by decide +kernel, by decide +kernel⟩
theorem d_run_in (T : Tx K mg) : FnOk P w K mg base (L2.CX P w) 2 T.a_run_in T.fd_run_in ["piece"] (spOf (G T) 1 f_run_in) :=
  fn_mk2 (k := 1) (A := A_run_in) (body := b_run_in) T.F_run_in sc_run_in rfl rfl rfl (by decide) rfl (fun cdv Ar outer s H E hr => (sC (sA 1 sc_run_in.nd rfl (eSpl (ev 0) (eGc (d := c_BLANK) T.c_BLANK (fun _ => k_BLANK)))) (sC (sI (eW (eOr2 (eCmpT (op_neD hr.units) neD_ok (eF call_lenX lenD_ok T.m_len (aC (ev 1) aN)) (eGc (d := c_PAIR) T.c_PAIR (fun _ => k_PAIR))) (eOr2 (eNotT (eV (eCl (d_is_name T) (hr.mono (by decide)) T.g_is_name T.F_is_name.kp T.b_is_name (takes_of rfl rfl rfl rfl) (.cons .nil) (aC (eIx rfl (ev 1) eI) aN)))) (eOr1 (eCmpT op_inX inD_ok (eCl (d_number_in T) (hr.mono (by decide)) T.g_number_in T.F_number_in.kp T.b_number_in (takes_of rfl rfl rfl rfl) (.cons .nil) (aC (eIx rfl (ev 1) eI) aN)) (eTu (aC eN (aC eI aN)))))))) (s1' (sR eN)) sN) (s1' (sR (eTu (aC (eFz (eIx rfl (ev 1) eI)) (aC (eFz (eCl (d_number_in T) (hr.mono (by decide)) T.g_number_in T.F_number_in.kp T.b_number_in (takes_of rfl rfl rfl rfl) (.cons .nil) (aC (eIx rfl (ev 1) eI) aN))) aN)))))))) rfl
theorem sc_runs_from : FnScope n_runs_from ["text"] (defScope st_runs_from) := ⟨rfl, rfl, rfl, by decide +kernel, rfl, by decide +kernel, by decide +kernel⟩
theorem d_runs_from (T : Tx K mg) : FnOk P w K mg base (L2.CX P w) 3 T.a_runs_from T.fd_runs_from ["text"] (spOf (G T) 1 f_runs_from) :=
  fn_mk2 (k := 2) (A := A_runs_from) (body := b_runs_from) T.F_runs_from sc_runs_from rfl rfl rfl (by decide) rfl (fun cdv Ar outer s H E hr => (sC (sA 1 sc_runs_from.nd rfl (eLi aN)) (sC (sFo (passes_of rfl) rfl (iEn rfl T.m_enumerate (eIfs (eCmpT (op_neD hr.units) neD_ok (ev 0) (eGc (d := c_NOTHING) T.c_NOTHING (fun _ => k_NOTHING))) (eSpl (ev 0) (eGc (d := c_BETWEEN) T.c_BETWEEN (fun _ => k_BETWEEN))) (eLi aN))) (gT 2 rfl rfl (gsC (gN 2 sc_runs_from.nd rfl) (gsC (gN 3 sc_runs_from.nd rfl) gsN))) (sC (sA 4 sc_runs_from.nd rfl (eCl (d_run_in T) (hr.mono (by decide)) T.g_run_in T.F_run_in.kp T.b_run_in (takes_of rfl rfl rfl rfl) (.cons .nil) (aC (ev 3) aN))) (sC (sI (eW (eOr2 (eCmpT op_isN isD_ok (ev 4) eN) (eOr1 (eW (eAnd2 (eCmpT op_gt cmpI_ok (eF call_lenX lenD_ok T.m_len (aC (ev 1) aN)) eI) (eAnd1 (eCmpT (op_eqD hr.units) eqD_ok (eIx rfl (ev 4) eI) (eIx rfl (eIx rfl (ev 1) (eNeg eI)) eI)))))))) (s1' (sRs (c := 0) rfl T.ox_BadText T.ix_BadText T.tx_BadText (di_BadText T) (hr.mono (by decide)) T.bx_BadText (takes_of rfl rfl rfl rfl) T.g_BadText (.cons .nil) rfl (aC (eFz (ev 2)) aN))) sN) (s1' (sAp 1 rfl (ev 4)))))) (s1' (sR (eFT call_tuple_of tupleD_ok T.m_tuple (aC (ev 1) aN))))))) rfl
theorem sc__law_box : FnScope n__law_box ["_law_script", "_law_k"] (defScope st__law_box) := ⟨rfl, rfl, rfl, by decide +kernel, rfl, by decide +kernel, by decide +kernel⟩
theorem d__law_box (T : Tx K mg) : FnOk P w K mg base (L2.CX P w) 1 T.a__law_box T.fd__law_box ["_law_script", "_law_k"] (spOf (G T) 2 f__law_box) :=
  fn_mk2 (k := 0) (A := A__law_box) (body := b__law_box) T.F__law_box sc__law_box rfl rfl rfl (by decide) rfl (fun cdv Ar outer s H E hr => (sC (sA 2 sc__law_box.nd rfl (eIfs (eCmpT op_lt cmpI_ok (ev 1) (eF call_lenX lenD_ok T.m_len (aC (ev 0) aN))) (eIx rfl (ev 0) (ev 1)) eI)) (s1' (sR (eLi (aC (eBin op_mulX mulD_ok (eF call_abs absD_ok T.m_abs (aC (ev 2) aN)) (eFT call_intX intD_ok T.m_int (aC (eCmp op_ge cmpI_ok (eF call_abs absD_ok T.m_abs (aC (ev 2) aN)) (eBin op_pow powD_ok eI eI)) aN))) (aC (eBin op_addX addD_ok (eBin op_addX addD_ok (eBin op_mod modD_ok (eFT call_intX intD_ok T.m_int (aC (ev 2) aN)) eI) (eBin op_mulX mulD_ok eI (ev 1))) eI) (aC eI aN)))))))) rfl
theorem sc__law_take : FnScope n__law_take ["_law_box_here", "_law_size_so"] (defScope st__law_take) := ⟨rfl, rfl, rfl, by decide +kernel, rfl, by decide +kernel, by decide +kernel⟩
theorem d__law_take (T : Tx K mg) : FnOk P w K mg base (L2.CX P w) 1 T.a__law_take T.fd__law_take ["_law_box_here", "_law_size_so"] (spOf (G T) 2 f__law_take) :=
  fn_mk2 (k := 0) (A := A__law_take) (body := b__law_take) T.F__law_take sc__law_take rfl rfl rfl (by decide) rfl (fun cdv Ar outer s H E hr => (sC (sI (eCmpT op_gt cmpI_ok (eIx rfl (ev 0) eI) eI) (sC (sA 2 sc__law_take.nd rfl (eBin op_mod modD_ok (eFT call_intX intD_ok T.m_int (aC (eIx rfl (ev 0) eI) aN)) (ev 1))) (sC (sSt 0 (eBin op_fdivW divD_ok (eIx rfl (ev 0) eI) (ev 1)) eI) (s1' (sR (ev 2))))) sN) (sC (sSt 0 (eBin op_addX addD_ok (eIx rfl (ev 0) eI) eI) eI) (sC (sA 3 sc__law_take.nd rfl (eBin op_mod modD_ok (eFT call_intX intD_ok T.m_int (aC (eBin op_mulX mulD_ok (eBin op_addX addD_ok (eIx rfl (ev 0) eI) (eBin op_mulX mulD_ok eI (eIx rfl (ev 0) eI))) (eBin op_addX addD_ok eI (eIx rfl (ev 0) eI))) aN)) eI)) (sC (sA 4 sc__law_take.nd rfl (eBin op_addX addD_ok (eBin op_mod modD_ok (eFT call_intX intD_ok T.m_int (aC (ev 3) aN)) eI) eI)) (sC (sA 5 sc__law_take.nd rfl (eBin op_mod modD_ok (eFT call_intX intD_ok T.m_int (aC (eBin op_mulX mulD_ok (eBin op_addX addD_ok (eBin op_addX addD_ok (ev 3) (eIx rfl (ev 0) eI)) (eBin op_fdivW divD_ok (eIx rfl (ev 0) eI) eI)) (ev 4)) aN)) eI)) (s1' (sR (eBin op_mod modD_ok (eFT call_intX intD_ok T.m_int (aC (eBin op_fdivW divD_ok (eBin op_mod modD_ok (eFT call_intX intD_ok T.m_int (aC (eBin op_addX addD_ok (eBin op_mulX mulD_ok (ev 5) eI) (ev 3)) aN)) eI) eI) aN)) (ev 1)))))))))) rfl
theorem sc__law_cells : FnScope n__law_cells ["_law_script", "_law_top_so"] (defScope st__law_cells) := ⟨rfl, rfl, rfl, by decide +kernel, rfl, by decide +kernel, by decide +kernel⟩
theorem d__law_cells (T : Tx K mg) : FnOk P w K mg base (L2.CX P w) 1 T.a__law_cells T.fd__law_cells ["_law_script", "_law_top_so"] (spOf (G T) 2 f__law_cells) :=
  fn_mk2 (k := 0) (A := A__law_cells) (body := b__law_cells) T.F__law_cells sc__law_cells rfl rfl rfl (by decide) rfl (fun cdv Ar outer s H E hr => (sC (sA 2 sc__law_cells.nd rfl (eOrsT rfl (eFT call_list_of listD_ok T.m_list (aC (eSc rfl (ev 0) oN (oS (ev 1))) aN)) (eOne (eLi (aC eI aN))))) (sC (sFo (passes_of rfl) rfl (iEn rfl T.m_enumerate (eSc rfl (ev 0) (oS (ev 1)) (oS eI))) (gT 2 rfl rfl (gsC (gN 3 sc__law_cells.nd rfl) (gsC (gN 4 sc__law_cells.nd rfl) gsN))) (sC (sA 5 sc__law_cells.nd rfl (eBin op_mod modD_ok (eFT call_intX intD_ok T.m_int (aC (ev 3) aN)) (ev 1))) (s1' (sSt 2 (eBin op_addX addD_ok (eIx rfl (ev 2) (ev 5)) (eBin op_mulX mulD_ok (ev 4) (eBin op_addX addD_ok (ev 3) eI))) (ev 5))))) (s1' (sR (ev 2)))))) rfl
theorem sc__law_of : FnScope n__law_of ["_law_box_here", "_law_goods_so"] (defScope st__law_of) := ⟨rfl, rfl, rfl, by decide +kernel, rfl, by decide +kernel, by decide +kernel⟩
theorem d__law_of (T : Tx K mg) : FnOk P w K mg base (L2.CX P w) 2 T.a__law_of T.fd__law_of ["_law_box_here", "_law_goods_so"] (spOf (G T) 2 f__law_of) :=
  fn_mk2 (k := 1) (A := A__law_of) (body := b__law_of) T.F__law_of sc__law_of rfl rfl rfl (by decide) rfl (fun cdv Ar outer s H E hr => (s1' (sR (eIx rfl (ev 1) (eCl (d__law_take T) (hr.mono (by decide)) T.g__law_take T.F__law_take.kp T.b__law_take (takes_of rfl rfl rfl rfl) (.cons (.cons .nil)) (aC (ev 0) (aC (eF call_lenX lenD_ok T.m_len (aC (ev 1) aN)) aN))))))) rfl
theorem dr__law_of (T : Tx K mg) : RawOf P w K mg base (G T) 2 T.a__law_of f__law_take := of_raw (k := 1) T.F__law_of sc__law_of T.b__law_of rfl (Or.inl rfl) (by decide) (by decide) (fun _ _ => rfl) fun cdv Ar outer s H E hr => pe_callS (d__law_take T) (hr.mono (by decide)) rfl T.g__law_take T.F__law_take.kp T.b__law_take (fun σ => passAt (takes_of rfl rfl rfl rfl) σ) (pa_cons (pv 0) (pa_cons (pe_callB call_lenX rfl T.m_len (by decide +kernel) (pa_cons (pv 1) pa_nil)) pa_nil))
theorem sc__law_pick : FnScope n__law_pick ["_law_box_here", "_law_goods_so", "_law_count_so"] (defScope st__law_pick) := ⟨rfl, rfl, rfl, by decide +kernel, rfl, by decide +kernel, by decide +kernel⟩
theorem d__law_pick (T : Tx K mg) : FnOk P w K mg base (L2.CX P w) 2 T.a__law_pick T.fd__law_pick ["_law_box_here", "_law_goods_so", "_law_count_so"] (spOf (G T) 3 f__law_pick) :=
  fn_mk2 (k := 1) (A := A__law_pick) (body := b__law_pick) T.F__law_pick sc__law_pick rfl rfl rfl (by decide) rfl (fun cdv Ar outer s H E hr => (sC (sP2 3 4 rfl sc__law_pick.nd rfl rfl (aC (eFT call_list_of listD_ok T.m_list (aC (ev 1) aN)) (aC (eLi aN) aN))) (sC (sFo (passes_of rfl) rfl (iRg T.m_range (eF (call_min2 rfl) minD_ok T.m_min (aC (eFT call_intX intD_ok T.m_int (aC (ev 2) aN)) (aC (eF call_lenX lenD_ok T.m_len (aC (ev 3) aN)) aN)))) (gN 5 sc__law_pick.nd rfl) (s1' (sAp 4 rfl (ePop 3 rfl (eCl (d__law_take T) (hr.mono (by decide)) T.g__law_take T.F__law_take.kp T.b__law_take (takes_of rfl rfl rfl rfl) (.cons (.cons .nil)) (aC (ev 0) (aC (eF call_lenX lenD_ok T.m_len (aC (ev 3) aN)) aN))))))) (s1' (sR (ev 4)))))) rfl
theorem sc__law_same : FnScope n__law_same ["_law_got", "_law_due"] (defScope st__law_same) := ⟨rfl, rfl, rfl, by decide +kernel, rfl, by decide +kernel, by decide +kernel⟩
theorem d__law_same_rec (T : Tx K mg) : ∀ n, FnOk P w K mg base (L2.CX P w) (1 + n) T.a__law_same T.fd__law_same ["_law_got", "_law_due"] (spOf (G T) 2 (f__law_same n))
  | 0 => FnOk.bad
  | n + 1 => by
    have FS := d__law_same_rec T n
    exact fn_mk2 (k := 1 + n) (A := A__law_same) (body := b__law_same (f__law_same n)) T.F__law_same sc__law_same rfl rfl rfl (by decide) rfl (fun cdv Ar outer s H E hr => (sC (sI (eV (eIsT [5, 4] (by decide) (by decide) rfl T.m_isinstance (ev 1) (pe_tup (pa_cons (pty_list T.m_list) (pa_cons (pty_tuple T.m_tuple) pa_nil))))) (sC (sI (eCmpT (op_neD hr.units) neD_ok (eIsK 5 (by decide) rfl T.m_isinstance (ev 0) (pty_list T.m_list)) (eIsK 5 (by decide) rfl T.m_isinstance (ev 1) (pty_list T.m_list))) (s1' (sR eB)) sN) (sC (sI (eCmpT (op_neD hr.units) neD_ok (eIsK 4 (by decide) rfl T.m_isinstance (ev 0) (pty_tuple T.m_tuple)) (eIsK 4 (by decide) rfl T.m_isinstance (ev 1) (pty_tuple T.m_tuple))) (s1' (sR eB)) sN) (s1' (sR (eAnds (eCmp (op_eqD hr.units) eqD_ok (eF call_lenX lenD_ok T.m_len (aC (ev 0) aN)) (eF call_lenX lenD_ok T.m_len (aC (ev 1) aN))) (eOne (eF (cr_all rfl) allD_ok T.m_all (aC (eLc [2, 3] rfl sc__law_same.nd (blkOk_by (N := n__law_same) (sc := defScope st__law_same) (own := [("_law_mine", 2), ("_law_its", 3)]) (by decide +kernel)) rfl (iZp rfl T.m_zip (ev 0) (ev 1)) (fun _ _ _ _ _ => (gT 2 rfl rfl (gsC (gN 2 sc__law_same.nd rfl) (gsC (gN 3 sc__law_same.nd rfl) gsN)))) (fun _ _ _ _ _ => tN) (fun _ _ _ _ _ => (eCl FS hr T.g__law_same T.F__law_same.kp T.b__law_same takes0 (.cons (.cons .nil)) (aC (ev 2) (aC (ev 3) aN))))) aN)))))))) sN) (sC (sI (eW (eOr2 (eCmpT op_isN isD_ok (ev 1) eN) (eOr1 (eV (eIsT [1, 3] (by decide) (by decide) rfl T.m_isinstance (ev 1) (pe_tup (pa_cons (pty_bool T.m_bool) (pa_cons (pty_str T.m_str) pa_nil)))))))) (s1' (sR (eAnds (eCmp (op_eqD hr.units) eqD_ok (ev 0) (ev 1)) (eAnds (eCmp (op_eqD hr.units) eqD_ok (eIsK 1 (by decide) rfl T.m_isinstance (ev 0) (pty_bool T.m_bool)) (eIsK 1 (by decide) rfl T.m_isinstance (ev 1) (pty_bool T.m_bool))) (eOne (eCmp (op_eqD hr.units) eqD_ok (eCmp op_isN isD_ok (ev 0) eN) (eCmp op_isN isD_ok (ev 1) eN))))))) sN) (s1' (sR (eAnds (eIsK 2 (by decide) rfl T.m_isinstance (ev 0) (pty_int T.m_int)) (eAnds (eNots (eIsK 1 (by decide) rfl T.m_isinstance (ev 0) (pty_bool T.m_bool))) (eOne (eCmp (op_eqD hr.units) eqD_ok (ev 0) (ev 1)))))))))) rfl
theorem d__law_same (T : Tx K mg) : FnOk P w K mg base (L2.CX P w) 9 T.a__law_same T.fd__law_same ["_law_got", "_law_due"] (spOf (G T) 2 (f__law_same 8)) := d__law_same_rec T 8
theorem sc__law_kinds : FnScope n__law_kinds ["_law_box_here"] (defScope st__law_kinds) := ⟨rfl, rfl, rfl, by decide +kernel, rfl, by decide +kernel, by decide +kernel⟩
theorem d__law_kinds (T : Tx K mg) : FnOk P w K mg base (L2.CX P w) 3 T.a__law_kinds T.fd__law_kinds ["_law_box_here"] (spOf (G T) 1 f__law_kinds) :=
  fn_mk2 (k := 2) (A := A__law_kinds) (body := b__law_kinds) T.F__law_kinds sc__law_kinds rfl rfl rfl (by decide) rfl (fun cdv Ar outer s H E hr => (sC (sA 1 sc__law_kinds.nd rfl (eLi (aC (eFz (eLi (aC (eS [97]) (aC (eS [97, 98]) (aC (eS [98]) (aC (eS [120]) aN)))))) (aC (eFz (eLi (aC (eS [98, 97, 103]) (aC (eS [98, 97, 103, 115]) (aC (eS [97, 110, 100]) (aC (eS [110, 111]) aN)))))) (aC (eFz (eLi (aC (eS [97, 98, 99, 100, 101, 102, 103, 104]) (aC (eS [97, 98, 99, 100, 101, 102, 103, 105]) (aC (eS [122]) (aC (eS [122, 122]) aN)))))) aN))))) (s1' (sR (eCl (d__law_pick T) (hr.mono (by decide)) T.g__law_pick T.F__law_pick.kp T.b__law_pick (takes_of rfl rfl rfl rfl) (.cons (.cons (.cons .nil))) (aC (ev 0) (aC (eCl (d__law_of T) (hr.mono (by decide)) T.g__law_of T.F__law_of.kp T.b__law_of (takes_of rfl rfl rfl rfl) (.cons (.cons .nil)) (aC (ev 0) (aC (ev 1) aN))) (aC (eBin op_addX addD_ok eI (eCl (d__law_take T) (hr.mono (by decide)) T.g__law_take T.F__law_take.kp T.b__law_take (takes_of rfl rfl rfl rfl) (.cons (.cons .nil)) (aC (ev 0) (aC eI aN)))) aN)))))))) rfl
theorem sc__law_bits : FnScope n__law_bits ["_law_box_here", "_law_tags", "_law_most_so"] (defScope st__law_bits) := ⟨rfl, rfl, rfl, by decide +kernel, rfl, by decide +kernel, by decide +kernel⟩
theorem d__law_bits (T : Tx K mg) : FnOk P w K mg base (L2.CX P w) 3 T.a__law_bits T.fd__law_bits ["_law_box_here", "_law_tags", "_law_most_so"] (spOf (G T) 3 f__law_bits) :=
  fn_mk2 (k := 2) (A := A__law_bits) (body := b__law_bits) T.F__law_bits sc__law_bits rfl rfl rfl (by decide) rfl (fun cdv Ar outer s H E hr => (sC (sA 3 sc__law_bits.nd rfl (eLi aN)) (sC (sFo (passes_of rfl) rfl (iRg T.m_range (eCl (d__law_take T) (hr.mono (by decide)) T.g__law_take T.F__law_take.kp T.b__law_take (takes_of rfl rfl rfl rfl) (.cons (.cons .nil)) (aC (ev 0) (aC (eBin op_addX addD_ok (ev 2) eI) aN)))) (gN 4 sc__law_bits.nd rfl) (sC (sA 5 sc__law_bits.nd rfl (eCl (d__law_of T) (hr.mono (by decide)) T.g__law_of T.F__law_of.kp T.b__law_of (takes_of rfl rfl rfl rfl) (.cons (.cons .nil)) (aC (ev 0) (aC (ev 1) aN)))) (s1' (sI (eW (eOr2 (eCmpT (op_eqD hr.units) eqD_ok (ev 3) (eLi aN)) (eOr1 (eCmpT (op_neD hr.units) neD_ok (eIx rfl (eIx rfl (ev 3) (eNeg eI)) eI) (ev 5))))) (s1' (sAp 3 rfl (eTu (aC (eFz (ev 5)) (aC (eFz (eCl (d__law_of T) (hr.mono (by decide)) T.g__law_of T.F__law_of.kp T.b__law_of (takes_of rfl rfl rfl rfl) (.cons (.cons .nil)) (aC (ev 0) (aC (eLi (aC eI (aC eI (aC eI (aC eI (aC eI (aC (eBin op_addX addD_ok (eBin op_pow powD_ok eI eI) (eCl (d__law_take T) (hr.mono (by decide)) T.g__law_take T.F__law_take.kp T.b__law_take (takes_of rfl rfl rfl rfl) (.cons (.cons .nil)) (aC (ev 0) (aC eI aN)))) aN))))))) aN)))) aN))))) sN)))) (s1' (sR (eFT call_tuple_of tupleD_ok T.m_tuple (aC (ev 3) aN))))))) rfl
theorem sc__law_bit_words : FnScope n__law_bit_words ["_law_bits_so"] (defScope st__law_bit_words) := ⟨rfl, rfl, rfl, by decide +kernel, rfl, by decide +kernel, by decide +kernel⟩
theorem d__law_bit_words (T : Tx K mg) : FnOk P w K mg base (L2.CX P w) 1 T.a__law_bit_words T.fd__law_bit_words ["_law_bits_so"] (spOf (G T) 1 f__law_bit_words) :=
  fn_mk2 (k := 0) (A := A__law_bit_words) (body := b__law_bit_words) T.F__law_bit_words sc__law_bit_words rfl rfl rfl (by decide) rfl (fun cdv Ar outer s H E hr => (s1' (sR (eIfs (eCmpT (op_neD hr.units) neD_ok (ev 0) (eTu aN)) (eJn rfl (eS [59, 32]) (eLc [1] rfl sc__law_bit_words.nd (blkOk_by (N := n__law_bit_words) (sc := defScope st__law_bit_words) (own := [("_law_own", 1)]) (by decide +kernel)) rfl (iSq rfl (ev 0)) (fun _ _ _ _ _ => (gN 1 sc__law_bit_words.nd rfl)) (fun _ _ _ _ _ => tN) (fun _ _ _ _ _ => (eBin op_addX addD_ok (eBin op_addX addD_ok (eIx rfl (ev 1) eI) (eS [32])) (eFT call_str_int strD_ok T.m_str (aC (eIx rfl (ev 1) eI) aN)))))) (eS [45]))))) rfl
theorem sc__law_heard : FnScope n__law_heard ["_law_flat"] (defScope st__law_heard) := ⟨rfl, rfl, rfl, by decide +kernel, rfl, by decide +kernel, by decide +kernel⟩
theorem d__law_heard (T : Tx K mg) : FnOk P w K mg base (L2.CX P w) 4 T.a__law_heard T.fd__law_heard ["_law_flat"] (spOf (G T) 1 f__law_heard) :=
  fn_mk2 (k := 3) (A := A__law_heard) (body := b__law_heard) T.F__law_heard sc__law_heard rfl rfl rfl (by decide) rfl (fun cdv Ar outer s H E hr => (sC (sAg (eTu (aC eN (aC eN aN))) (gT 2 rfl rfl (gsC (gN 1 sc__law_heard.nd rfl) (gsC (gN 2 sc__law_heard.nd rfl) gsN)))) (sC (sTr 3 cm_BadText rfl rfl rfl sc__law_heard.nd rfl (T.nm_BadText rfl rfl) (takes_of rfl rfl rfl rfl) T.cm_BadText (fun W pn xe tk hp => (s1' (sA 2 sc__law_heard.nd rfl (eCl (d_runs_from T) (hr.mono (by decide)) T.g_runs_from T.F_runs_from.kp T.b_runs_from tk (.cons .nil) (aC (ev 0) aN))))) (fun a pn => (s1' (sA 1 sc__law_heard.nd rfl (ev 3))))) (s1' (sR (eIfs (eCmpT op_isN isD_ok (ev 1) eN) (ev 2) (eLi (aC (eXfl rfl (T.xf_piece) (ev 1)) aN)))))))) rfl
theorem sc__law_by_hand_right : FnScope n__law_by_hand_right [] (defScope st__law_by_hand_right) := ⟨rfl, rfl, rfl, by decide +kernel, rfl, by decide +kernel, by decide +kernel⟩
theorem d__law_by_hand_right (T : Tx K mg) : FnOk P w K mg base (L2.CX P w) 10 T.a__law_by_hand_right T.fd__law_by_hand_right [] (spOf (G T) 0 f__law_by_hand_right) :=
  fn_mk2 (k := 9) (A := A__law_by_hand_right) (body := b__law_by_hand_right) T.F__law_by_hand_right sc__law_by_hand_right rfl rfl rfl (by decide) rfl (fun cdv Ar outer s H E hr => (sC (sA 0 sc__law_by_hand_right.nd rfl (eLi (aC (eTu (aC (eS []) (aC eI aN))) (aC (eTu (aC (eS [32]) (aC eI aN))) (aC (eTu (aC (eS [97]) (aC eI aN))) (aC (eTu (aC (eS [97, 32]) (aC eI aN))) (aC (eTu (aC (eS [51]) (aC eI aN))) aN))))))) (sC (sA 0 sc__law_by_hand_right.nd rfl (eBin op_addX addD_ok (ev 0) (eLi (aC (eTu (aC (eS [97, 32, 48]) (aC eI aN))) (aC (eTu (aC (eS [97, 32, 48, 51]) (aC eI aN))) (aC (eTu (aC (eS [97, 32, 45, 51]) (aC eI aN))) (aC (eTu (aC (eS [97, 32, 43, 51]) (aC eI aN))) (aC (eTu (aC (eS [97, 32, 120]) (aC eI aN))) aN)))))))) (sC (sA 0 sc__law_by_hand_right.nd rfl (eBin op_addX addD_ok (ev 0) (eLi (aC (eTu (aC (eS [97, 32, 32, 51]) (aC eI aN))) (aC (eTu (aC (eS [32, 97, 32, 51]) (aC eI aN))) (aC (eTu (aC (eS [97, 32, 51, 32]) (aC eI aN))) (aC (eTu (aC (eS [65, 32, 51]) (aC eI aN))) aN))))))) (sC (sA 0 sc__law_by_hand_right.nd rfl (eBin op_addX addD_ok (ev 0) (eLi (aC (eTu (aC (eS [97, 49, 32, 51]) (aC eI aN))) (aC (eTu (aC (eS [97, 98, 99, 100, 101, 102, 103, 104, 105, 32, 51]) (aC eI aN))) (aC (eTu (aC (eS [51, 32, 97]) (aC eI aN))) (aC (eTu (aC (eS [97, 51]) (aC eI aN))) aN))))))) (sC (sA 0 sc__law_by_hand_right.nd rfl (eBin op_addX addD_ok (ev 0) (eLi (aC (eTu (aC (eS [97, 32, 51, 59]) (aC eI aN))) (aC (eTu (aC (eS [97, 32, 51, 59, 32]) (aC eI aN))) (aC (eTu (aC (eS [97, 32, 51, 59, 98, 32, 49]) (aC eI aN))) (aC (eTu (aC (eS [97, 32, 51, 44, 32, 98, 32, 49]) (aC eI aN))) aN))))))) (sC (sA 0 sc__law_by_hand_right.nd rfl (eBin op_addX addD_ok (ev 0) (eLi (aC (eTu (aC (eS [97, 32, 51, 59, 32, 45]) (aC eI aN))) (aC (eTu (aC (eS [45, 59, 32, 97, 32, 51]) (aC eI aN))) (aC (eTu (aC (eS [45, 45]) (aC eI aN))) aN)))))) (sC (sA 0 sc__law_by_hand_right.nd rfl (eBin op_addX addD_ok (ev 0) (eLi (aC (eTu (aC (eS [97, 32, 51, 59, 32, 97, 32, 49]) (aC eI aN))) (aC (eTu (aC (eS [97, 32, 51, 59, 32, 98, 32, 49, 59, 32, 98, 32, 49]) (aC eI aN))) (aC (eTu (aC (eS [97, 32, 51, 59, 32, 98, 32, 49, 59, 32, 97, 32, 48]) (aC eI aN))) aN)))))) (sC (sA 0 sc__law_by_hand_right.nd rfl (eBin op_addX addD_ok (ev 0) (eLi (aC (eTu (aC (eS [97, 32, 51, 59, 32, 98, 59, 32, 97, 32, 49]) (aC eI aN))) (aC (eTu (aC (eS [97, 32, 51, 59, 32, 98, 32, 49, 59, 32, 97, 32, 49, 59, 32, 97, 32, 50]) (aC eI aN))) aN))))) (sC (sA 0 sc__law_by_hand_right.nd rfl (eBin op_addX addD_ok (ev 0) (eLi (aC (eTu (aC (eS [97, 32, 51, 59, 32, 98, 32, 49, 32, 99, 32, 50]) (aC eI aN))) (aC (eTu (aC (eS [97, 32, 51, 46, 48]) (aC eI aN))) (aC (eTu (aC (eS [97, 32, 49, 95, 48]) (aC eI aN))) aN)))))) (sC (sA 0 sc__law_by_hand_right.nd rfl (eBin op_addX addD_ok (ev 0) (eLi (aC (eTu (aC (eS [97, 32, 51, 59, 32, 98, 32, 49, 59, 32, 32, 97, 32, 50]) (aC eI aN))) (aC (eTu (aC (eS [97, 32, 98, 32, 51]) (aC eI aN))) (aC (eTu (aC (eS [97, 32, 51, 59, 32, 97, 98]) (aC eI aN))) aN)))))) (sC (sLc 1 [2, 3] rfl sc__law_by_hand_right.nd rfl (blkOk_by (N := n__law_by_hand_right) (sc := defScope st__law_by_hand_right) (own := [("_law_flat", 2), ("_law_at_so", 3)]) (by decide +kernel)) rfl (sw_true rfl rfl rfl (by decide +kernel)) (iSq rfl (ev 0)) (fun _ _ _ _ _ => (gT 2 rfl rfl (gsC (gN 2 sc__law_by_hand_right.nd rfl) (gsC (gN 3 sc__law_by_hand_right.nd rfl) gsN)))) (fun _ _ _ _ _ => tN) (fun _ _ _ _ _ => (eCl (d__law_heard T) (hr.mono (by decide)) T.g__law_heard T.F__law_heard.kp T.b__law_heard takes0 (.cons .nil) (aC (ev 2) aN)))) (sC (sI (eNotT (eV (eCl (d__law_same T) (hr.mono (by decide)) T.g__law_same T.F__law_same.kp T.b__law_same (takes_of rfl rfl rfl rfl) (.cons (.cons .nil)) (aC (ev 1) (aC (eLc [2, 3] rfl sc__law_by_hand_right.nd (blkOk_by (N := n__law_by_hand_right) (sc := defScope st__law_by_hand_right) (own := [("_law_flat", 2), ("_law_at_so", 3)]) (by decide +kernel)) rfl (iSq rfl (ev 0)) (fun _ _ _ _ _ => (gT 2 rfl rfl (gsC (gN 2 sc__law_by_hand_right.nd rfl) (gsC (gN 3 sc__law_by_hand_right.nd rfl) gsN)))) (fun _ _ _ _ _ => tN) (fun _ _ _ _ _ => (eLi (aC (eFz (ev 3)) aN)))) aN))))) (s1' (sR eB)) sN) (sC (sA 1 sc__law_by_hand_right.nd rfl (eLi (aC (eFz (eCl (d__law_heard T) (hr.mono (by decide)) T.g__law_heard T.F__law_heard.kp T.b__law_heard (takes_of rfl rfl rfl rfl) (.cons .nil) (aC (eS [45]) aN))) (aC (eFz (eCl (d__law_heard T) (hr.mono (by decide)) T.g__law_heard T.F__law_heard.kp T.b__law_heard (takes_of rfl rfl rfl rfl) (.cons .nil) (aC (eS [97, 32, 49, 48, 59, 32, 97, 98, 32, 49]) aN))) (aC (eFz (eCl (d__law_heard T) (hr.mono (by decide)) T.g__law_heard T.F__law_heard.kp T.b__law_heard (takes_of rfl rfl rfl rfl) (.cons .nil) (aC (eS [97, 98, 99, 100, 101, 102, 103, 104, 32, 49]) aN))) aN))))) (s1' (sR (eCl (d__law_same T) (hr.mono (by decide)) T.g__law_same T.F__law_same.kp T.b__law_same (takes_of rfl rfl rfl rfl) (.cons (.cons .nil)) (aC (ev 1) (aC (eLi (aC (eTu aN) (aC (eTu (aC (eTu (aC (eS [97]) (aC eI aN))) (aC (eTu (aC (eS [97, 98]) (aC eI aN))) aN))) (aC (eTu (aC (eTu (aC (eS [97, 98, 99, 100, 101, 102, 103, 104]) (aC eI aN))) aN)) aN)))) aN))))))))))))))))))) rfl
theorem sc__law_bent : FnScope n__law_bent ["_law_box_here", "_law_piece_so"] (defScope st__law_bent) := ⟨rfl, rfl, rfl, by decide +kernel, rfl, by decide +kernel, by decide +kernel⟩
theorem d__law_bent (T : Tx K mg) : FnOk P w K mg base (L2.CX P w) 3 T.a__law_bent T.fd__law_bent ["_law_box_here", "_law_piece_so"] (spOf (G T) 2 f__law_bent) :=
  fn_mk2 (k := 2) (A := A__law_bent) (body := b__law_bent) T.F__law_bent sc__law_bent rfl rfl rfl (by decide) rfl (fun cdv Ar outer s H E hr => (sC (sA 2 sc__law_bent.nd rfl (eCl (d__law_take T) (hr.mono (by decide)) T.g__law_take T.F__law_take.kp T.b__law_take (takes_of rfl rfl rfl rfl) (.cons (.cons .nil)) (aC (ev 0) (aC eI aN)))) (sC (sI (eCmpT (op_eqD hr.units) eqD_ok (ev 2) eI) (s1' (sR (eBin op_addX addD_ok (ev 1) (eCl (d__law_of T) (hr.mono (by decide)) T.g__law_of T.F__law_of.kp T.b__law_of (takes_of rfl rfl rfl rfl) (.cons (.cons .nil)) (aC (ev 0) (aC (eLi (aC (eS [120]) (aC (eS [59]) (aC (eS [32, 49]) (aC (eS [32]) (aC (eS [44]) aN)))))) aN)))))) sN) (sC (sIrep (op_eqD hr.units) eqD_ok (ev 2) (pet_repl (y := [32]) (zs := [[32, 32], [], [95], [32, 48]]) (dr__law_of T) (hr.mono (by decide)) (takes_of rfl rfl rfl rfl) T.g__law_of T.F__law_of.kp (by decide +kernel) rfl ⟨by decide +kernel, by decide +kernel, by decide +kernel, by decide +kernel, trivial⟩ (by decide) (by decide) (by decide) rfl (by first | exact Or.inl rfl | exact Or.inr (Or.inl rfl)) rfl (by first | exact Or.inl rfl | exact Or.inr (Or.inl rfl)) rfl (by decide) (by decide) (by decide) (by decide) (by decide) rfl rfl rfl rfl rfl rfl) sN) (sC (sI (eCmpT (op_eqD hr.units) eqD_ok (ev 2) eI) (s1' (sR (eCl (d__law_of T) (hr.mono (by decide)) T.g__law_of T.F__law_of.kp T.b__law_of (takes_of rfl rfl rfl rfl) (.cons (.cons .nil)) (aC (ev 0) (aC (eLi (aC (eS []) (aC (eS [110, 111, 110, 101]) (aC (eS [110, 111, 110, 101, 32, 48]) (aC (eS [53, 32, 110, 111, 110, 101]) (aC (eS [53]) aN)))))) aN))))) sN) (s1' (sR (eBin op_addX addD_ok (eCl (d__law_of T) (hr.mono (by decide)) T.g__law_of T.F__law_of.kp T.b__law_of (takes_of rfl rfl rfl rfl) (.cons (.cons .nil)) (aC (ev 0) (aC (eLi (aC (eS [32]) (aC (eS [43]) (aC (eS [65]) aN)))) aN))) (ev 1))))))))) rfl
theorem sc__law_case_right : FnScope n__law_case_right ["_law_box_here"] (defScope st__law_case_right) := ⟨rfl, rfl, rfl, by decide +kernel, rfl, by decide +kernel, by decide +kernel⟩
theorem d__law_case_right (T : Tx K mg) : FnOk P w K mg base (L2.CX P w) 10 T.a__law_case_right T.fd__law_case_right ["_law_box_here"] (spOf (G T) 1 f__law_case_right) :=
  fn_mk2 (k := 9) (A := A__law_case_right) (body := b__law_case_right) T.F__law_case_right sc__law_case_right rfl rfl rfl (by decide) rfl (fun cdv Ar outer s H E hr => (sC (sA 1 sc__law_case_right.nd rfl (eCl (d__law_bits T) (hr.mono (by decide)) T.g__law_bits T.F__law_bits.kp T.b__law_bits (takes_of rfl rfl rfl rfl) (.cons (.cons (.cons .nil))) (aC (ev 0) (aC (eCl (d__law_kinds T) (hr.mono (by decide)) T.g__law_kinds T.F__law_kinds.kp T.b__law_kinds (takes_of rfl rfl rfl rfl) (.cons .nil) (aC (ev 0) aN)) (aC eI aN))))) (sC (sI (eCmpT (op_eqD hr.units) eqD_ok (ev 1) (eTu aN)) (s1' (sR (eCl (d__law_same T) (hr.mono (by decide)) T.g__law_same T.F__law_same.kp T.b__law_same (takes_of rfl rfl rfl rfl) (.cons (.cons .nil)) (aC (eCl (d__law_heard T) (hr.mono (by decide)) T.g__law_heard T.F__law_heard.kp T.b__law_heard (takes_of rfl rfl rfl rfl) (.cons .nil) (aC (eS [45]) aN)) (aC (eTu aN) aN))))) sN) (sC (sA 2 sc__law_case_right.nd rfl (eSpl (eCl (d__law_bit_words T) (hr.mono (by decide)) T.g__law_bit_words T.F__law_bit_words.kp T.b__law_bit_words (takes_of rfl rfl rfl rfl) (.cons .nil) (aC (ev 1) aN)) (eS [59, 32]))) (sC (sA 3 sc__law_case_right.nd rfl (eCl (d__law_take T) (hr.mono (by decide)) T.g__law_take T.F__law_take.kp T.b__law_take (takes_of rfl rfl rfl rfl) (.cons (.cons .nil)) (aC (ev 0) (aC (eF call_lenX lenD_ok T.m_len (aC (ev 2) aN)) aN)))) (sC (sSt 2 (eCl (d__law_bent T) (hr.mono (by decide)) T.g__law_bent T.F__law_bent.kp T.b__law_bent (takes_of rfl rfl rfl rfl) (.cons (.cons .nil)) (aC (ev 0) (aC (eIx rfl (ev 2) (ev 3)) aN))) (ev 3)) (s1' (sR (eCl (d__law_same T) (hr.mono (by decide)) T.g__law_same T.F__law_same.kp T.b__law_same (takes_of rfl rfl rfl rfl) (.cons (.cons .nil)) (aC (eLi (aC (eFz (eCl (d__law_heard T) (hr.mono (by decide)) T.g__law_heard T.F__law_heard.kp T.b__law_heard (takes_of rfl rfl rfl rfl) (.cons .nil) (aC (eJn rfl (eS [59, 32]) (ev 2)) aN))) (aC (eFz (eCl (d__law_heard T) (hr.mono (by decide)) T.g__law_heard T.F__law_heard.kp T.b__law_heard (takes_of rfl rfl rfl rfl) (.cons .nil) (aC (eCl (d__law_bit_words T) (hr.mono (by decide)) T.g__law_bit_words T.F__law_bit_words.kp T.b__law_bit_words (takes_of rfl rfl rfl rfl) (.cons .nil) (aC (ev 1) aN)) aN))) aN))) (aC (eLi (aC (eFz (eLi (aC (eFz (ev 3)) aN))) (aC (eFz (ev 1)) aN))) aN))))))))))) rfl
theorem sc__law_right : FnScope n__law_right ["_law_box_here"] (defScope st__law_right) := ⟨rfl, rfl, rfl, by decide +kernel, rfl, by decide +kernel, by decide +kernel⟩
theorem d__law_right (T : Tx K mg) : FnOk P w K mg base (L2.CX P w) 11 T.a__law_right T.fd__law_right ["_law_box_here"] (spOf (G T) 1 f__law_right) :=
  fn_mk2 (k := 10) (A := A__law_right) (body := b__law_right) T.F__law_right sc__law_right rfl rfl rfl (by decide) rfl (fun cdv Ar outer s H E hr => (s1' (sR (eAnds (eCl0 (d__law_by_hand_right T) (hr.mono (by decide)) T.g__law_by_hand_right T.F__law_by_hand_right.kp T.b__law_by_hand_right (takes_of rfl rfl rfl rfl)) (eOne (eF (cr_all rfl) allD_ok T.m_all (aC (eLc [1] rfl sc__law_right.nd (blkOk_by (N := n__law_right) (sc := defScope st__law_right) (own := [("_law_turn", 1)]) (by decide +kernel)) rfl (iRg T.m_range eI) (fun _ _ _ _ _ => (gN 1 sc__law_right.nd rfl)) (fun _ _ _ _ _ => tN) (fun _ _ _ _ _ => (eCl (d__law_case_right T) (hr.mono (by decide)) T.g__law_case_right T.F__law_case_right.kp T.b__law_case_right takes0 (.cons .nil) (aC (ev 0) aN)))) aN))))))) rfl
theorem sc_law : FnScope n_law ["_law_script"] (defScope st_law) := ⟨rfl, rfl, rfl, by decide +kernel, rfl, by decide +kernel, by decide +kernel⟩
theorem d_law (T : Tx K mg) : FnOk P w K mg base (L2.CX P w) 12 T.a_law T.fd_law ["_law_script"] (spOf (G T) 1 f_law) :=
  fn_mk2 (k := 11) (A := A_law) (body := b_law) T.F_law sc_law rfl rfl rfl (by decide) rfl (fun cdv Ar outer s H E hr => (sC (sA 1 sc_law.nd rfl (eCl (d__law_cells T) (hr.mono (by decide)) T.g__law_cells T.F__law_cells.kp T.b__law_cells (takes_of rfl rfl rfl rfl) (.cons (.cons .nil)) (aC (ev 0) (aC eI aN)))) (s1' (sR (eF (cr_all rfl) allD_ok T.m_all (aC (eLc [2] rfl sc_law.nd (blkOk_by (N := n_law) (sc := defScope st_law) (own := [("_law_k", 2)]) (by decide +kernel)) rfl (iRg T.m_range (eF call_lenX lenD_ok T.m_len (aC (ev 1) aN))) (fun _ _ _ _ _ => (gN 2 sc_law.nd rfl)) (fun _ _ _ _ _ => tN) (fun _ _ _ _ _ => (eCl (d__law_right T) (hr.mono (by decide)) T.g__law_right T.F__law_right.kp T.b__law_right takes0 (.cons .nil) (aC (eCl (d__law_box T) (hr.mono (by decide)) T.g__law_box T.F__law_box.kp T.b__law_box takes0 (.cons (.cons .nil)) (aC (ev 1) (aC (ev 2) aN))) aN)))) aN)))))) rfl
end
theorem all_mk {P : Program} {w : World} {K : PySem.W.Frag} {h : Heap} {mg : Str → Option Value} {fa : Addr} (X : K.In h) (GG : h.Ns mainGlobals mg) (hfa : mg "law" = some (.ref fa))
    {C_RowError : Addr}
    {C_BadText fI_BadText N_BadText : Addr} {nm_BadText q_BadText : Str} {bs_BadText : List Value} {sn_BadText : List Str} {sub_BadText : List Value} {ab_BadText : Bool} {col_BadText : Option Bool} {dd_BadText : Option Addr} {m0_BadText m1_BadText m2_BadText m3_BadText m5_BadText : Option Value} {odI_BadText anI_BadText : Option Addr} {slI_BadText : Array (Option Value)} {ocI_BadText kVI_BadText dcI_BadText pmI_BadText cdI_BadText ctI_BadText : Value}
    {f0 : Addr} {od0 an0 : Option Addr} {sl0 : Array (Option Value)} {oc0 kV0 dc0 pm0 cd0 ct0 : Value}
    {f1 : Addr} {od1 an1 : Option Addr} {sl1 : Array (Option Value)} {oc1 kV1 dc1 pm1 cd1 ct1 : Value}
    {f2 : Addr} {od2 an2 : Option Addr} {sl2 : Array (Option Value)} {oc2 kV2 dc2 pm2 cd2 ct2 : Value}
    {f3 : Addr} {od3 an3 : Option Addr} {sl3 : Array (Option Value)} {oc3 kV3 dc3 pm3 cd3 ct3 : Value}
    {f4 : Addr} {od4 an4 : Option Addr} {sl4 : Array (Option Value)} {oc4 kV4 dc4 pm4 cd4 ct4 : Value}
    {f5 : Addr} {od5 an5 : Option Addr} {sl5 : Array (Option Value)} {oc5 kV5 dc5 pm5 cd5 ct5 : Value}
    {f6 : Addr} {od6 an6 : Option Addr} {sl6 : Array (Option Value)} {oc6 kV6 dc6 pm6 cd6 ct6 : Value}
    {f7 : Addr} {od7 an7 : Option Addr} {sl7 : Array (Option Value)} {oc7 kV7 dc7 pm7 cd7 ct7 : Value}
    {f8 : Addr} {od8 an8 : Option Addr} {sl8 : Array (Option Value)} {oc8 kV8 dc8 pm8 cd8 ct8 : Value}
    {f9 : Addr} {od9 an9 : Option Addr} {sl9 : Array (Option Value)} {oc9 kV9 dc9 pm9 cd9 ct9 : Value}
    {f10 : Addr} {od10 an10 : Option Addr} {sl10 : Array (Option Value)} {oc10 kV10 dc10 pm10 cd10 ct10 : Value}
    {f11 : Addr} {od11 an11 : Option Addr} {sl11 : Array (Option Value)} {oc11 kV11 dc11 pm11 cd11 ct11 : Value}
    {f12 : Addr} {od12 an12 : Option Addr} {sl12 : Array (Option Value)} {oc12 kV12 dc12 pm12 cd12 ct12 : Value}
    {f13 : Addr} {od13 an13 : Option Addr} {sl13 : Array (Option Value)} {oc13 kV13 dc13 pm13 cd13 ct13 : Value}
    {f14 : Addr} {od14 an14 : Option Addr} {sl14 : Array (Option Value)} {oc14 kV14 dc14 pm14 cd14 ct14 : Value}
    {f15 : Addr} {od15 an15 : Option Addr} {sl15 : Array (Option Value)} {oc15 kV15 dc15 pm15 cd15 ct15 : Value}
    {f16 : Addr} {od16 an16 : Option Addr} {sl16 : Array (Option Value)} {oc16 kV16 dc16 pm16 cd16 ct16 : Value}
    {f17 : Addr} {od17 an17 : Option Addr} {sl17 : Array (Option Value)} {oc17 kV17 dc17 pm17 cd17 ct17 : Value}
    {f18 : Addr} {od18 an18 : Option Addr} {sl18 : Array (Option Value)} {oc18 kV18 dc18 pm18 cd18 ct18 : Value}
    {t_LETTERS : Tok}
    {t_DIGITS : Tok}
    {t_MOST_LETTERS : Tok}
    {t_NOTHING : Tok}
    {t_BETWEEN : Tok}
    {t_BLANK : Tok}
    {t_PAIR : Tok}
    (aC_BadText : PySem.W.nsIn K mainGlobals "BadText" = some (some (.ref C_BadText)))
    (xL_BadText : K.lookup C_BadText = some (excClassObj nm_BadText q_BadText C_BadText N_BadText bs_BadText [.ref C_RowError, .type "ValueError", .type "Exception", .type "BaseException", .type "object"] true sn_BadText sub_BadText ab_BadText col_BadText dd_BadText m0_BadText m1_BadText m2_BadText m3_BadText m5_BadText "ValueError.__new__"))
    (sa_BadText : PySem.W.findIn K (.ref C_BadText) "__setattr__" = some (some (.builtin "object.__setattr__")))
    (ga_BadText : PySem.W.findIn K (.ref C_BadText) "__getattribute__" = some (some (.builtin "BaseException.__getattribute__")))
    (gg_BadText : PySem.W.findIn K (.ref C_BadText) "__getattr__" = some none)
    (eC_BadText : PySem.W.subIn K (.ref C_BadText) (.type "BaseException") = some true)
    (tC_BadText : PySem.W.typeIn K (.ref C_BadText) = some (.type "type"))
    (kC_BadText : PySem.W.keepIn K (.ref C_BadText) = true)
    (hC_BadText : PySem.W.hasDictIn K C_BadText = true)
    (iC_BadText : PySem.W.findIn K (.ref C_BadText) "__init__" = some (some (.ref fI_BadText)))
    (tI_BadText : PySem.W.typeIn K (.ref fI_BadText) = some (.type "function"))
    (lI_BadText : K.lookup fI_BadText = some ⟨ocI_BadText, odI_BadText, .func (PySem.W.fnOf "__init__" "BadText.__init__" (defArgs sti_BadText) (defBody sti_BadText) (defScope sti_BadText) .none kVI_BadText dcI_BadText pmI_BadText anI_BadText cdI_BadText ctI_BadText), slI_BadText⟩)
    (cI_BadText : PySem.W.codeIn K cdI_BadText "BadText.__init__" = true)
    (kI_BadText : PySem.W.keepIn K (.ref fI_BadText) = true)
    (no_BadText_piece : PySem.W.findIn K (.ref C_BadText) "piece" = some none)
    (sC_BadText_BadText : PySem.W.subIn K (.ref C_BadText) (.ref C_BadText) = some true)
    (a0 : PySem.W.nsIn K mainGlobals "is_name" = some (some (.ref f0)))
    (l0 : K.lookup f0 = some ⟨oc0, od0, .func (PySem.W.fnOf "is_name" "is_name" (defArgs st_is_name) (defBody st_is_name) (defScope st_is_name) .none kV0 dc0 pm0 an0 cd0 ct0), sl0⟩)
    (c0 : PySem.W.codeIn K cd0 "is_name" = true)
    (k0 : PySem.W.keepIn K (.ref f0) = true)
    (a1 : PySem.W.nsIn K mainGlobals "number_in" = some (some (.ref f1)))
    (l1 : K.lookup f1 = some ⟨oc1, od1, .func (PySem.W.fnOf "number_in" "number_in" (defArgs st_number_in) (defBody st_number_in) (defScope st_number_in) .none kV1 dc1 pm1 an1 cd1 ct1), sl1⟩)
    (c1 : PySem.W.codeIn K cd1 "number_in" = true)
    (k1 : PySem.W.keepIn K (.ref f1) = true)
    (a2 : PySem.W.nsIn K mainGlobals "run_in" = some (some (.ref f2)))
    (l2 : K.lookup f2 = some ⟨oc2, od2, .func (PySem.W.fnOf "run_in" "run_in" (defArgs st_run_in) (defBody st_run_in) (defScope st_run_in) .none kV2 dc2 pm2 an2 cd2 ct2), sl2⟩)
    (c2 : PySem.W.codeIn K cd2 "run_in" = true)
    (k2 : PySem.W.keepIn K (.ref f2) = true)
    (a3 : PySem.W.nsIn K mainGlobals "runs_from" = some (some (.ref f3)))
    (l3 : K.lookup f3 = some ⟨oc3, od3, .func (PySem.W.fnOf "runs_from" "runs_from" (defArgs st_runs_from) (defBody st_runs_from) (defScope st_runs_from) .none kV3 dc3 pm3 an3 cd3 ct3), sl3⟩)
    (c3 : PySem.W.codeIn K cd3 "runs_from" = true)
    (k3 : PySem.W.keepIn K (.ref f3) = true)
    (a4 : PySem.W.nsIn K mainGlobals "_law_box" = some (some (.ref f4)))
    (l4 : K.lookup f4 = some ⟨oc4, od4, .func (PySem.W.fnOf "_law_box" "_law_box" (defArgs st__law_box) (defBody st__law_box) (defScope st__law_box) .none kV4 dc4 pm4 an4 cd4 ct4), sl4⟩)
    (c4 : PySem.W.codeIn K cd4 "_law_box" = true)
    (k4 : PySem.W.keepIn K (.ref f4) = true)
    (a5 : PySem.W.nsIn K mainGlobals "_law_take" = some (some (.ref f5)))
    (l5 : K.lookup f5 = some ⟨oc5, od5, .func (PySem.W.fnOf "_law_take" "_law_take" (defArgs st__law_take) (defBody st__law_take) (defScope st__law_take) .none kV5 dc5 pm5 an5 cd5 ct5), sl5⟩)
    (c5 : PySem.W.codeIn K cd5 "_law_take" = true)
    (k5 : PySem.W.keepIn K (.ref f5) = true)
    (a6 : PySem.W.nsIn K mainGlobals "_law_cells" = some (some (.ref f6)))
    (l6 : K.lookup f6 = some ⟨oc6, od6, .func (PySem.W.fnOf "_law_cells" "_law_cells" (defArgs st__law_cells) (defBody st__law_cells) (defScope st__law_cells) .none kV6 dc6 pm6 an6 cd6 ct6), sl6⟩)
    (c6 : PySem.W.codeIn K cd6 "_law_cells" = true)
    (k6 : PySem.W.keepIn K (.ref f6) = true)
    (a7 : PySem.W.nsIn K mainGlobals "_law_of" = some (some (.ref f7)))
    (l7 : K.lookup f7 = some ⟨oc7, od7, .func (PySem.W.fnOf "_law_of" "_law_of" (defArgs st__law_of) (defBody st__law_of) (defScope st__law_of) .none kV7 dc7 pm7 an7 cd7 ct7), sl7⟩)
    (c7 : PySem.W.codeIn K cd7 "_law_of" = true)
    (k7 : PySem.W.keepIn K (.ref f7) = true)
    (a8 : PySem.W.nsIn K mainGlobals "_law_pick" = some (some (.ref f8)))
    (l8 : K.lookup f8 = some ⟨oc8, od8, .func (PySem.W.fnOf "_law_pick" "_law_pick" (defArgs st__law_pick) (defBody st__law_pick) (defScope st__law_pick) .none kV8 dc8 pm8 an8 cd8 ct8), sl8⟩)
    (c8 : PySem.W.codeIn K cd8 "_law_pick" = true)
    (k8 : PySem.W.keepIn K (.ref f8) = true)
    (a9 : PySem.W.nsIn K mainGlobals "_law_same" = some (some (.ref f9)))
    (l9 : K.lookup f9 = some ⟨oc9, od9, .func (PySem.W.fnOf "_law_same" "_law_same" (defArgs st__law_same) (defBody st__law_same) (defScope st__law_same) .none kV9 dc9 pm9 an9 cd9 ct9), sl9⟩)
    (c9 : PySem.W.codeIn K cd9 "_law_same" = true)
    (k9 : PySem.W.keepIn K (.ref f9) = true)
    (a10 : PySem.W.nsIn K mainGlobals "_law_kinds" = some (some (.ref f10)))
    (l10 : K.lookup f10 = some ⟨oc10, od10, .func (PySem.W.fnOf "_law_kinds" "_law_kinds" (defArgs st__law_kinds) (defBody st__law_kinds) (defScope st__law_kinds) .none kV10 dc10 pm10 an10 cd10 ct10), sl10⟩)
    (c10 : PySem.W.codeIn K cd10 "_law_kinds" = true)
    (k10 : PySem.W.keepIn K (.ref f10) = true)
    (a11 : PySem.W.nsIn K mainGlobals "_law_bits" = some (some (.ref f11)))
    (l11 : K.lookup f11 = some ⟨oc11, od11, .func (PySem.W.fnOf "_law_bits" "_law_bits" (defArgs st__law_bits) (defBody st__law_bits) (defScope st__law_bits) .none kV11 dc11 pm11 an11 cd11 ct11), sl11⟩)
    (c11 : PySem.W.codeIn K cd11 "_law_bits" = true)
    (k11 : PySem.W.keepIn K (.ref f11) = true)
    (a12 : PySem.W.nsIn K mainGlobals "_law_bit_words" = some (some (.ref f12)))
    (l12 : K.lookup f12 = some ⟨oc12, od12, .func (PySem.W.fnOf "_law_bit_words" "_law_bit_words" (defArgs st__law_bit_words) (defBody st__law_bit_words) (defScope st__law_bit_words) .none kV12 dc12 pm12 an12 cd12 ct12), sl12⟩)
    (c12 : PySem.W.codeIn K cd12 "_law_bit_words" = true)
    (k12 : PySem.W.keepIn K (.ref f12) = true)
    (a13 : PySem.W.nsIn K mainGlobals "_law_heard" = some (some (.ref f13)))
    (l13 : K.lookup f13 = some ⟨oc13, od13, .func (PySem.W.fnOf "_law_heard" "_law_heard" (defArgs st__law_heard) (defBody st__law_heard) (defScope st__law_heard) .none kV13 dc13 pm13 an13 cd13 ct13), sl13⟩)
    (c13 : PySem.W.codeIn K cd13 "_law_heard" = true)
    (k13 : PySem.W.keepIn K (.ref f13) = true)
    (a14 : PySem.W.nsIn K mainGlobals "_law_by_hand_right" = some (some (.ref f14)))
    (l14 : K.lookup f14 = some ⟨oc14, od14, .func (PySem.W.fnOf "_law_by_hand_right" "_law_by_hand_right" (defArgs st__law_by_hand_right) (defBody st__law_by_hand_right) (defScope st__law_by_hand_right) .none kV14 dc14 pm14 an14 cd14 ct14), sl14⟩)
    (c14 : PySem.W.codeIn K cd14 "_law_by_hand_right" = true)
    (k14 : PySem.W.keepIn K (.ref f14) = true)
    (a15 : PySem.W.nsIn K mainGlobals "_law_bent" = some (some (.ref f15)))
    (l15 : K.lookup f15 = some ⟨oc15, od15, .func (PySem.W.fnOf "_law_bent" "_law_bent" (defArgs st__law_bent) (defBody st__law_bent) (defScope st__law_bent) .none kV15 dc15 pm15 an15 cd15 ct15), sl15⟩)
    (c15 : PySem.W.codeIn K cd15 "_law_bent" = true)
    (k15 : PySem.W.keepIn K (.ref f15) = true)
    (a16 : PySem.W.nsIn K mainGlobals "_law_case_right" = some (some (.ref f16)))
    (l16 : K.lookup f16 = some ⟨oc16, od16, .func (PySem.W.fnOf "_law_case_right" "_law_case_right" (defArgs st__law_case_right) (defBody st__law_case_right) (defScope st__law_case_right) .none kV16 dc16 pm16 an16 cd16 ct16), sl16⟩)
    (c16 : PySem.W.codeIn K cd16 "_law_case_right" = true)
    (k16 : PySem.W.keepIn K (.ref f16) = true)
    (a17 : PySem.W.nsIn K mainGlobals "_law_right" = some (some (.ref f17)))
    (l17 : K.lookup f17 = some ⟨oc17, od17, .func (PySem.W.fnOf "_law_right" "_law_right" (defArgs st__law_right) (defBody st__law_right) (defScope st__law_right) .none kV17 dc17 pm17 an17 cd17 ct17), sl17⟩)
    (c17 : PySem.W.codeIn K cd17 "_law_right" = true)
    (k17 : PySem.W.keepIn K (.ref f17) = true)
    (a18 : PySem.W.nsIn K mainGlobals "law" = some (some (.ref f18)))
    (l18 : K.lookup f18 = some ⟨oc18, od18, .func (PySem.W.fnOf "law" "law" (defArgs st_law) (defBody st_law) (defScope st_law) .none kV18 dc18 pm18 an18 cd18 ct18), sl18⟩)
    (c18 : PySem.W.codeIn K cd18 "law" = true)
    (k18 : PySem.W.keepIn K (.ref f18) = true)
    (z_abs : PySem.W.nsIn K mainGlobals "abs" = some none)
    (z_all : PySem.W.nsIn K mainGlobals "all" = some none)
    (z_bool : PySem.W.nsIn K mainGlobals "bool" = some none)
    (z_enumerate : PySem.W.nsIn K mainGlobals "enumerate" = some none)
    (z_int : PySem.W.nsIn K mainGlobals "int" = some none)
    (z_isinstance : PySem.W.nsIn K mainGlobals "isinstance" = some none)
    (z_len : PySem.W.nsIn K mainGlobals "len" = some none)
    (z_list : PySem.W.nsIn K mainGlobals "list" = some none)
    (z_min : PySem.W.nsIn K mainGlobals "min" = some none)
    (z_range : PySem.W.nsIn K mainGlobals "range" = some none)
    (z_str : PySem.W.nsIn K mainGlobals "str" = some none)
    (z_tuple : PySem.W.nsIn K mainGlobals "tuple" = some none)
    (z_zip : PySem.W.nsIn K mainGlobals "zip" = some none)
    (q_LETTERS : PySem.W.nsIn K mainGlobals "LETTERS" = some (some (.str "abcdefghijklmnopqrstuvwxyz" t_LETTERS)))
    (q_DIGITS : PySem.W.nsIn K mainGlobals "DIGITS" = some (some (.str "0123456789" t_DIGITS)))
    (q_MOST_LETTERS : PySem.W.nsIn K mainGlobals "MOST_LETTERS" = some (some (.int 8 t_MOST_LETTERS)))
    (q_NOTHING : PySem.W.nsIn K mainGlobals "NOTHING" = some (some (.str "-" t_NOTHING)))
    (q_BETWEEN : PySem.W.nsIn K mainGlobals "BETWEEN" = some (some (.str "; " t_BETWEEN)))
    (q_BLANK : PySem.W.nsIn K mainGlobals "BLANK" = some (some (.str " " t_BLANK)))
    (q_PAIR : PySem.W.nsIn K mainGlobals "PAIR" = some (some (.int 2 t_PAIR)))
    (plain : ∀ ns : List Int, ns.length ≤ 63 → ∃ outs, f_law [.sh (.scr ns)] = .ok (.sh (.bl true)) outs) :
    ∃ fd : FuncData, (∀ (s : Shared) (u : Value), BindsTo s fd ⟨[u], []⟩ [("_law_script", u)]) ∧ ∀ base : Heap, K.In base → base.Ns mainGlobals mg → FnOk P w K mg base (L2.CX P w) 12 fa fd ["_law_script"] (spLaw K 63) := by
  have e : fa = f18 := Value.ref.inj (Option.some.inj (hfa.symm.trans (PySem.W.mg_of X GG a18)))
  rw [e]
  have FI_BadText := fun_mk (st := sti_BadText) lI_BadText cI_BadText kI_BadText
  have bI_BadText := FI_BadText.binds (ps := ["self", "piece"]) fun _ _ _ _ _ _ us hl => match us, hl with | [_, _], _ => rfl
  have F0 := fun_mk (st := st_is_name) l0 c0 k0
  have b0 := F0.binds (ps := ["value"]) fun _ _ _ _ _ _ us hl => match us, hl with | [_], _ => rfl
  have F1 := fun_mk (st := st_number_in) l1 c1 k1
  have b1 := F1.binds (ps := ["word"]) fun _ _ _ _ _ _ us hl => match us, hl with | [_], _ => rfl
  have F2 := fun_mk (st := st_run_in) l2 c2 k2
  have b2 := F2.binds (ps := ["piece"]) fun _ _ _ _ _ _ us hl => match us, hl with | [_], _ => rfl
  have F3 := fun_mk (st := st_runs_from) l3 c3 k3
  have b3 := F3.binds (ps := ["text"]) fun _ _ _ _ _ _ us hl => match us, hl with | [_], _ => rfl
  have F4 := fun_mk (st := st__law_box) l4 c4 k4
  have b4 := F4.binds (ps := ["_law_script", "_law_k"]) fun _ _ _ _ _ _ us hl => match us, hl with | [_, _], _ => rfl
  have F5 := fun_mk (st := st__law_take) l5 c5 k5
  have b5 := F5.binds (ps := ["_law_box_here", "_law_size_so"]) fun _ _ _ _ _ _ us hl => match us, hl with | [_, _], _ => rfl
  have F6 := fun_mk (st := st__law_cells) l6 c6 k6
  have b6 := F6.binds (ps := ["_law_script", "_law_top_so"]) fun _ _ _ _ _ _ us hl => match us, hl with | [_, _], _ => rfl
  have F7 := fun_mk (st := st__law_of) l7 c7 k7
  have b7 := F7.binds (ps := ["_law_box_here", "_law_goods_so"]) fun _ _ _ _ _ _ us hl => match us, hl with | [_, _], _ => rfl
  have F8 := fun_mk (st := st__law_pick) l8 c8 k8
  have b8 := F8.binds (ps := ["_law_box_here", "_law_goods_so", "_law_count_so"]) fun _ _ _ _ _ _ us hl => match us, hl with | [_, _, _], _ => rfl
  have F9 := fun_mk (st := st__law_same) l9 c9 k9
  have b9 := F9.binds (ps := ["_law_got", "_law_due"]) fun _ _ _ _ _ _ us hl => match us, hl with | [_, _], _ => rfl
  have F10 := fun_mk (st := st__law_kinds) l10 c10 k10
  have b10 := F10.binds (ps := ["_law_box_here"]) fun _ _ _ _ _ _ us hl => match us, hl with | [_], _ => rfl
  have F11 := fun_mk (st := st__law_bits) l11 c11 k11
  have b11 := F11.binds (ps := ["_law_box_here", "_law_tags", "_law_most_so"]) fun _ _ _ _ _ _ us hl => match us, hl with | [_, _, _], _ => rfl
  have F12 := fun_mk (st := st__law_bit_words) l12 c12 k12
  have b12 := F12.binds (ps := ["_law_bits_so"]) fun _ _ _ _ _ _ us hl => match us, hl with | [_], _ => rfl
  have F13 := fun_mk (st := st__law_heard) l13 c13 k13
  have b13 := F13.binds (ps := ["_law_flat"]) fun _ _ _ _ _ _ us hl => match us, hl with | [_], _ => rfl
  have F14 := fun_mk (st := st__law_by_hand_right) l14 c14 k14
  have b14 := F14.binds (ps := []) fun _ _ _ _ _ _ us hl => match us, hl with | [], _ => rfl
  have F15 := fun_mk (st := st__law_bent) l15 c15 k15
  have b15 := F15.binds (ps := ["_law_box_here", "_law_piece_so"]) fun _ _ _ _ _ _ us hl => match us, hl with | [_, _], _ => rfl
  have F16 := fun_mk (st := st__law_case_right) l16 c16 k16
  have b16 := F16.binds (ps := ["_law_box_here"]) fun _ _ _ _ _ _ us hl => match us, hl with | [_], _ => rfl
  have F17 := fun_mk (st := st__law_right) l17 c17 k17
  have b17 := F17.binds (ps := ["_law_box_here"]) fun _ _ _ _ _ _ us hl => match us, hl with | [_], _ => rfl
  have F18 := fun_mk (st := st_law) l18 c18 k18
  have b18 := F18.binds (ps := ["_law_script"]) fun _ _ _ _ _ _ us hl => match us, hl with | [_], _ => rfl
  let T : Tx K mg := { a_BadText := C_BadText, ai_BadText := fI_BadText, fdi_BadText := _, g_BadText := PySem.W.mg_of X GG aC_BadText, ox_BadText := ⟨⟨nm_BadText, q_BadText, N_BadText, bs_BadText, _, sn_BadText, sub_BadText, ab_BadText, col_BadText, dd_BadText, m0_BadText, m1_BadText, m2_BadText, m3_BadText, m5_BadText, xL_BadText, rfl⟩, sa_BadText, eC_BadText, tC_BadText, kC_BadText⟩, ix_BadText := iC_BadText, tx_BadText := tI_BadText, FI_BadText := FI_BadText, bx_BadText := bI_BadText, xc_BadText := ⟨ga_BadText, gg_BadText, eC_BadText, hC_BadText⟩, no_BadText_piece := no_BadText_piece, em_BadText_BadText := PySem.W.exm_ref eC_BadText hC_BadText tC_BadText sC_BadText_BadText, a_is_name := f0, fd_is_name := _, F_is_name := F0, g_is_name := PySem.W.mg_of X GG a0, b_is_name := b0, a_number_in := f1, fd_number_in := _, F_number_in := F1, g_number_in := PySem.W.mg_of X GG a1, b_number_in := b1, a_run_in := f2, fd_run_in := _, F_run_in := F2, g_run_in := PySem.W.mg_of X GG a2, b_run_in := b2, a_runs_from := f3, fd_runs_from := _, F_runs_from := F3, g_runs_from := PySem.W.mg_of X GG a3, b_runs_from := b3, a__law_box := f4, fd__law_box := _, F__law_box := F4, g__law_box := PySem.W.mg_of X GG a4, b__law_box := b4, a__law_take := f5, fd__law_take := _, F__law_take := F5, g__law_take := PySem.W.mg_of X GG a5, b__law_take := b5, a__law_cells := f6, fd__law_cells := _, F__law_cells := F6, g__law_cells := PySem.W.mg_of X GG a6, b__law_cells := b6, a__law_of := f7, fd__law_of := _, F__law_of := F7, g__law_of := PySem.W.mg_of X GG a7, b__law_of := b7, a__law_pick := f8, fd__law_pick := _, F__law_pick := F8, g__law_pick := PySem.W.mg_of X GG a8, b__law_pick := b8, a__law_same := f9, fd__law_same := _, F__law_same := F9, g__law_same := PySem.W.mg_of X GG a9, b__law_same := b9, a__law_kinds := f10, fd__law_kinds := _, F__law_kinds := F10, g__law_kinds := PySem.W.mg_of X GG a10, b__law_kinds := b10, a__law_bits := f11, fd__law_bits := _, F__law_bits := F11, g__law_bits := PySem.W.mg_of X GG a11, b__law_bits := b11, a__law_bit_words := f12, fd__law_bit_words := _, F__law_bit_words := F12, g__law_bit_words := PySem.W.mg_of X GG a12, b__law_bit_words := b12, a__law_heard := f13, fd__law_heard := _, F__law_heard := F13, g__law_heard := PySem.W.mg_of X GG a13, b__law_heard := b13, a__law_by_hand_right := f14, fd__law_by_hand_right := _, F__law_by_hand_right := F14, g__law_by_hand_right := PySem.W.mg_of X GG a14, b__law_by_hand_right := b14, a__law_bent := f15, fd__law_bent := _, F__law_bent := F15, g__law_bent := PySem.W.mg_of X GG a15, b__law_bent := b15, a__law_case_right := f16, fd__law_case_right := _, F__law_case_right := F16, g__law_case_right := PySem.W.mg_of X GG a16, b__law_case_right := b16, a__law_right := f17, fd__law_right := _, F__law_right := F17, g__law_right := PySem.W.mg_of X GG a17, b__law_right := b17, a_law := f18, fd_law := _, F_law := F18, g_law := PySem.W.mg_of X GG a18, b_law := b18, m_abs := PySem.W.mg_none_of X GG z_abs, m_all := PySem.W.mg_none_of X GG z_all, m_bool := PySem.W.mg_none_of X GG z_bool, m_enumerate := PySem.W.mg_none_of X GG z_enumerate, m_int := PySem.W.mg_none_of X GG z_int, m_isinstance := PySem.W.mg_none_of X GG z_isinstance, m_len := PySem.W.mg_none_of X GG z_len, m_list := PySem.W.mg_none_of X GG z_list, m_min := PySem.W.mg_none_of X GG z_min, m_range := PySem.W.mg_none_of X GG z_range, m_str := PySem.W.mg_none_of X GG z_str, m_tuple := PySem.W.mg_none_of X GG z_tuple, m_zip := PySem.W.mg_none_of X GG z_zip, c_LETTERS := ⟨_, PySem.W.mg_of X GG q_LETTERS, ⟨t_LETTERS, rfl⟩⟩, c_DIGITS := ⟨_, PySem.W.mg_of X GG q_DIGITS, ⟨t_DIGITS, rfl⟩⟩, c_MOST_LETTERS := ⟨_, PySem.W.mg_of X GG q_MOST_LETTERS, ⟨t_MOST_LETTERS, rfl⟩⟩, c_NOTHING := ⟨_, PySem.W.mg_of X GG q_NOTHING, ⟨t_NOTHING, rfl⟩⟩, c_BETWEEN := ⟨_, PySem.W.mg_of X GG q_BETWEEN, ⟨t_BETWEEN, rfl⟩⟩, c_BLANK := ⟨_, PySem.W.mg_of X GG q_BLANK, ⟨t_BLANK, rfl⟩⟩, c_PAIR := ⟨_, PySem.W.mg_of X GG q_PAIR, ⟨t_PAIR, rfl⟩⟩ }
  exact ⟨_, fun s u => b18 s [u] |> fun q => .of_eq rfl, fun base _ _ => law_end (Γ := G T) (d_law T) plain⟩
end porterhands_k02_wrong_texts_of_runs
end PM

set_option linter.all false
set_option maxRecDepth 100000
set_option maxHeartbeats 4000000
namespace PM.porterhands_k02_wrong_texts_of_runs
open PM
theorem okL0 : okL 0 = true := rfl
/-- what can be compared with itself -/
def pl : Nat → D → Bool
  | _, .non => true
  | _, .bl _ => true
  | _, .int _ => true
  | _, .str s => s.all fun c => Nat.blt c 1114112
  | n + 1, .tup ds => ds.all (pl n) && Nat.ble ds.length 1000
  | n + 1, .lst ds => ds.all (pl n) && Nat.ble ds.length 1000
  | _, _ => false
theorem okPy_int (i : Int) : okPy (.int i) = true := rfl
theorem okPy_bl (b : Bool) : okPy (.bl b) = true := rfl
theorem okPy_non : okPy .non = true := rfl
theorem okPy_str {s : List Nat} (h : (s.all fun c => Nat.blt c 1114112) = true) : okPy (.str s) = true := by
  unfold okPy
  rw [Bool.and_eq_true]
  exact ⟨h, rfl⟩
theorem deq_int (i j : Int) : deq (.int i) (.int j) = (i == j) := by unfold deq; rfl
theorem deq_bl (i j : Bool) : deq (.bl i) (.bl j) = (i == j) := by unfold deq; rfl
theorem deq_str (i j : List Nat) : deq (.str i) (.str j) = (i == j) := by unfold deq; rfl
theorem deq_non : deq .non .non = true := by unfold deq; rfl
theorem back2 (ρ : Env) (a b : D) : ∀ outs, back ρ [.sh a, .sh b] outs = ρ
  | [] => rfl
  | [_] => rfl
  | [_, _] => rfl
  | _ :: _ :: _ :: _ => rfl
theorem asBls_rep : ∀ n : Nat, asBls (List.replicate n (.bl true)) = some (List.replicate n true)
  | 0 => rfl
  | n + 1 => by
    rw [List.replicate_succ]
    show (asBls (List.replicate n (.bl true))).map (true :: ·) = _
    rw [asBls_rep n]; rfl
theorem all_rep : ∀ n : Nat, (List.replicate n true).all id = true
  | 0 => rfl
  | n + 1 => by rw [List.replicate_succ, List.all_cons, all_rep n]; rfl
def sameE (fs : Fn) : Ev Sl := eCall fs (eCons (eVar 2) (eCons (eVar 3) (eNil)))
theorem zip_loop {fs : Fn} {L : D} {ds : List D} (h : ∀ d ∈ ds, ∃ outs, fs [.sh d, .sh d] = .ok (.sh (.bl true)) outs) (hl : ds.length ≤ 1000) :
    lcT [2, 3] (gtT 2 (gtsC (gtN 2) (gtsC (gtN 3) (gtsN)))) eYes (sameE fs) (zipF ds ds) [] [.sh L, .sh L, .no, .no] = .ok (List.replicate ds.length (.bl true)) [.sh L, .sh L, .no, .no] := by
  have hz : (zipF ds ds).length = ds.length := by rw [zipF_len]; omega
  have key := lcT_inv (own := [2, 3]) (g := gtT 2 (gtsC (gtN 2) (gtsC (gtN 3) (gtsN)))) (m := sameE fs) (fun i acc ρ => acc = List.replicate i (.bl true) ∧ ρ = [.sh L, .sh L, .no, .no]) (zipF ds ds) 0 [] [.sh L, .sh L, .no, .no] ⟨rfl, rfl⟩ (by rw [hz]; simp [sSeq, sIf, andS, eTest, eOp, Ev.bind, eVar, eC, op2, look, ixD, atD, cmpI, giveAt, bl?, sAsg, eCB, eCons, eNil, looks, intD, modD, setS, settle, sSetL, eFr, frz, divD, ownL, sRet, outsOf, L2.ixN, mkFn, frA, addD, mulD, sAug, eTup, eLst, shs, lenD, absD, eIf, eAnd, eOr, eNot, eCall, callAt, argsOf, argOf, brs, nodupB, wipeE, back, sFor, eIt, rng1, sApp, ePopAt, gtN, sNext, eUn, negD, listD, minD, sPar, settles, okL0]; omega) ?_
  · obtain ⟨acc, ρ, e, q1, q2⟩ := key
    rw [e, q1, q2, hz, Nat.zero_add]
  · intro i d acc ρ hi hP
    obtain ⟨rfl, rfl⟩ := hP
    obtain ⟨a, b, q1, q2, rfl⟩ := zipF_get hi
    rw [q1] at q2
    cases q2
    obtain ⟨outs, e⟩ := h a (List.mem_of_getElem? q1)
    refine ⟨[.sh L, .sh L, .sh a, .sh a], by simp [sSeq, sIf, andS, eTest, eOp, Ev.bind, eVar, eC, op2, look, ixD, atD, cmpI, giveAt, bl?, sAsg, eCB, eCons, eNil, looks, intD, modD, setS, settle, sSetL, eFr, frz, divD, ownL, sRet, outsOf, L2.ixN, mkFn, frA, addD, mulD, sAug, eTup, eLst, shs, lenD, absD, eIf, eAnd, eOr, eNot, eCall, callAt, argsOf, argOf, brs, nodupB, wipeE, back, sFor, eIt, rng1, sApp, ePopAt, gtN, sNext, eUn, negD, listD, minD, sPar, settles, okL0, gtT, gtsC, gtsN], .bl true, [.sh L, .sh L, .sh a, .sh a], ?_, ?_, rfl⟩
    · simp [sSeq, sIf, andS, eTest, eOp, Ev.bind, eVar, eC, op2, look, ixD, atD, cmpI, giveAt, bl?, sAsg, eCB, eCons, eNil, looks, intD, modD, setS, settle, sSetL, eFr, frz, divD, ownL, sRet, outsOf, L2.ixN, mkFn, frA, addD, mulD, sAug, eTup, eLst, shs, lenD, absD, eIf, eAnd, eOr, eNot, eCall, callAt, argsOf, argOf, brs, nodupB, wipeE, back, sFor, eIt, rng1, sApp, ePopAt, gtN, sNext, eUn, negD, listD, minD, sPar, settles, okL0, sameE, e, back2]
    · rw [← List.replicate_succ']
theorem lenD_lst (ds : List D) : lenD [.lst ds] = some (.sh (.int ds.length)) := rfl
theorem lenD_tup (ds : List D) : lenD [.tup ds] = some (.sh (.int ds.length)) := rfl
def plS : D → Bool
  | .non => true
  | .bl _ => true
  | .int _ => true
  | .str s => s.all fun c => Nat.blt c 1114112
  | _ => false
theorem same_sc (fs : Fn) (d : D) (hd : plS d = true) : ∃ outs, mkFn 4 2 A__law_same (b__law_same fs) [.sh d, .sh d] = .ok (.sh (.bl true)) outs := by
  simp only [mkFn, List.length_cons, List.length_nil, if_true, List.replicate, b__law_same, Nat.zero_add]
  cases d with
  | non => simp [sSeq, sIf, andS, eTest, eOp, Ev.bind, eVar, eC, op2, look, ixD, atD, cmpI, giveAt, bl?, sAsg, eCB, eCons, eNil, looks, intD, modD, setS, settle, sSetL, eFr, frz, divD, ownL, sRet, outsOf, L2.ixN, mkFn, frA, addD, mulD, sAug, eTup, eLst, shs, lenD, absD, eIf, eAnd, eOr, eNot, eCall, callAt, argsOf, argOf, brs, nodupB, wipeE, back, sFor, eIt, rng1, sApp, ePopAt, gtN, sNext, eUn, negD, listD, minD, sPar, settles, okL0, eIsi, tyC, isiT, isD, eAndV, eNotV, eBl, isNonD, eqD, okPy_non, okPy_bl, deq_non, deq_bl, A__law_same]
  | bl b => simp [sSeq, sIf, andS, eTest, eOp, Ev.bind, eVar, eC, op2, look, ixD, atD, cmpI, giveAt, bl?, sAsg, eCB, eCons, eNil, looks, intD, modD, setS, settle, sSetL, eFr, frz, divD, ownL, sRet, outsOf, L2.ixN, mkFn, frA, addD, mulD, sAug, eTup, eLst, shs, lenD, absD, eIf, eAnd, eOr, eNot, eCall, callAt, argsOf, argOf, brs, nodupB, wipeE, back, sFor, eIt, rng1, sApp, ePopAt, gtN, sNext, eUn, negD, listD, minD, sPar, settles, okL0, eIsi, tyC, isiT, isD, eAndV, eNotV, eBl, isNonD, eqD, okPy_non, okPy_bl, deq_non, deq_bl, A__law_same]
  | int i => simp [sSeq, sIf, andS, eTest, eOp, Ev.bind, eVar, eC, op2, look, ixD, atD, cmpI, giveAt, bl?, sAsg, eCB, eCons, eNil, looks, intD, modD, setS, settle, sSetL, eFr, frz, divD, ownL, sRet, outsOf, L2.ixN, mkFn, frA, addD, mulD, sAug, eTup, eLst, shs, lenD, absD, eIf, eAnd, eOr, eNot, eCall, callAt, argsOf, argOf, brs, nodupB, wipeE, back, sFor, eIt, rng1, sApp, ePopAt, gtN, sNext, eUn, negD, listD, minD, sPar, settles, okL0, eIsi, tyC, isiT, isD, eAndV, eNotV, eBl, isNonD, eqD, okPy_int, okPy_bl, deq_int, deq_bl, A__law_same]
  | str s => simp [sSeq, sIf, andS, eTest, eOp, Ev.bind, eVar, eC, op2, look, ixD, atD, cmpI, giveAt, bl?, sAsg, eCB, eCons, eNil, looks, intD, modD, setS, settle, sSetL, eFr, frz, divD, ownL, sRet, outsOf, L2.ixN, mkFn, frA, addD, mulD, sAug, eTup, eLst, shs, lenD, absD, eIf, eAnd, eOr, eNot, eCall, callAt, argsOf, argOf, brs, nodupB, wipeE, back, sFor, eIt, rng1, sApp, ePopAt, gtN, sNext, eUn, negD, listD, minD, sPar, settles, okL0, eIsi, tyC, isiT, isD, eAndV, eNotV, eBl, isNonD, eqD, okPy_str (show (s.all fun c => Nat.blt c 1114112) = true from hd), okPy_bl, deq_str, deq_bl, A__law_same]
  | _ => cases hd
theorem same_co (fs : Fn) (L : D) (ds : List D) (hL : L = .lst ds ∨ L = .tup ds) (hl : ds.length ≤ 1000) (h : ∀ d ∈ ds, ∃ outs, fs [.sh d, .sh d] = .ok (.sh (.bl true)) outs) (g1 g2 : Sl) (h1 : g1 = .sh L ∨ g1 = .ow L) (h2 : g2 = .sh L ∨ g2 = .ow L) :
    ∃ outs, mkFn 4 2 A__law_same (b__law_same fs) [g1, g2] = .ok (.sh (.bl true)) outs := by
  simp only [mkFn, List.length_cons, List.length_nil, if_true, List.replicate, b__law_same, Nat.zero_add]
  rw [show (eCall fs (eCons (eVar 2) (eCons (eVar 3) (eNil)))) = sameE fs from rfl]
  have e := zip_loop (L := L) h hl
  generalize sameE fs = m at e ⊢
  have r1 := asBls_rep ds.length
  have r2 := all_rep ds.length
  generalize hR : List.replicate ds.length (D.bl true) = R at e r1
  generalize hR2 : List.replicate ds.length true = R2 at r1 r2
  rcases hL with rfl | rfl <;> rcases h1 with rfl | rfl <;> rcases h2 with rfl | rfl <;>
    simp [sSeq, sIf, andS, eTest, eOp, Ev.bind, eVar, eC, op2, look, ixD, atD, cmpI, giveAt, bl?, sAsg, eCB, eCons, eNil, looks, intD, modD, setS, settle, sSetL, eFr, frz, divD, ownL, sRet, outsOf, L2.ixN, mkFn, frA, addD, mulD, sAug, eTup, eLst, shs, lenD, absD, eIf, eAnd, eOr, eNot, eCall, callAt, argsOf, argOf, brs, nodupB, wipeE, back, sFor, eIt, rng1, sApp, ePopAt, gtN, sNext, eUn, negD, listD, minD, sPar, settles, okL0, eIsi, tyC, isiT, neD, eqD, okPy_bl, okPy_int, deq_bl, deq_int, lenD_lst, lenD_tup, eAndV, eComp, eZip, zipD, sharedAt, restoreE, allD, e, r1, r2, A__law_same]
theorem same_refl : ∀ (n : Nat) (d : D), (plS d = true → ∃ outs, f__law_same (n + 1) [.sh d, .sh d] = .ok (.sh (.bl true)) outs) ∧
    (pl n d = true → plS d = false → ∀ g1 g2 : Sl, (g1 = .sh d ∨ g1 = .ow d) → (g2 = .sh d ∨ g2 = .ow d) → ∃ outs, f__law_same (n + 1) [g1, g2] = .ok (.sh (.bl true)) outs) := by
  intro n
  induction n with
  | zero => exact fun d => ⟨fun h => same_sc _ d h, fun h hs => by
    cases d with
    | str s => exact absurd (show plS (.str s) = true from h) (by rw [hs]; decide)
    | _ => first | (simp [sSeq, sIf, andS, eTest, eOp, Ev.bind, eVar, eC, op2, look, ixD, atD, cmpI, giveAt, bl?, sAsg, eCB, eCons, eNil, looks, intD, modD, setS, settle, sSetL, eFr, frz, divD, ownL, sRet, outsOf, L2.ixN, mkFn, frA, addD, mulD, sAug, eTup, eLst, shs, lenD, absD, eIf, eAnd, eOr, eNot, eCall, callAt, argsOf, argOf, brs, nodupB, wipeE, back, sFor, eIt, rng1, sApp, ePopAt, gtN, sNext, eUn, negD, listD, minD, sPar, settles, okL0, pl] at h; done) | (simp [sSeq, sIf, andS, eTest, eOp, Ev.bind, eVar, eC, op2, look, ixD, atD, cmpI, giveAt, bl?, sAsg, eCB, eCons, eNil, looks, intD, modD, setS, settle, sSetL, eFr, frz, divD, ownL, sRet, outsOf, L2.ixN, mkFn, frA, addD, mulD, sAug, eTup, eLst, shs, lenD, absD, eIf, eAnd, eOr, eNot, eCall, callAt, argsOf, argOf, brs, nodupB, wipeE, back, sFor, eIt, rng1, sApp, ePopAt, gtN, sNext, eUn, negD, listD, minD, sPar, settles, okL0, plS] at hs; done)⟩
  | succ n ih =>
    intro d
    refine ⟨fun h => same_sc _ d h, fun h hs g1 g2 h1 h2 => ?_⟩
    have go : ∀ ds : List D, (ds.all (pl n)) = true → ∀ x ∈ ds, ∃ outs, f__law_same (n + 1) [.sh x, .sh x] = .ok (.sh (.bl true)) outs := fun ds ha x hx => by
      have hp := List.all_eq_true.mp ha x hx
      cases hc : plS x with
      | true => exact (ih x).1 hc
      | false => exact (ih x).2 hp hc _ _ (.inl rfl) (.inl rfl)
    cases d with
    | lst ds =>
      simp only [pl, Bool.and_eq_true] at h
      exact same_co _ _ ds (.inl rfl) (Nat.le_of_ble_eq_true h.2) (go ds h.1) g1 g2 h1 h2
    | tup ds =>
      simp only [pl, Bool.and_eq_true] at h
      exact same_co _ _ ds (.inr rfl) (Nat.le_of_ble_eq_true h.2) (go ds h.1) g1 g2 h1 h2
    | str s => exact absurd (show plS (.str s) = true from h) (by rw [hs]; decide)
    | _ => first | (simp [sSeq, sIf, andS, eTest, eOp, Ev.bind, eVar, eC, op2, look, ixD, atD, cmpI, giveAt, bl?, sAsg, eCB, eCons, eNil, looks, intD, modD, setS, settle, sSetL, eFr, frz, divD, ownL, sRet, outsOf, L2.ixN, mkFn, frA, addD, mulD, sAug, eTup, eLst, shs, lenD, absD, eIf, eAnd, eOr, eNot, eCall, callAt, argsOf, argOf, brs, nodupB, wipeE, back, sFor, eIt, rng1, sApp, ePopAt, gtN, sNext, eUn, negD, listD, minD, sPar, settles, okL0, plS] at hs; done) | (simp [sSeq, sIf, andS, eTest, eOp, Ev.bind, eVar, eC, op2, look, ixD, atD, cmpI, giveAt, bl?, sAsg, eCB, eCons, eNil, looks, intD, modD, setS, settle, sSetL, eFr, frz, divD, ownL, sRet, outsOf, L2.ixN, mkFn, frA, addD, mulD, sAug, eTup, eLst, shs, lenD, absD, eIf, eAnd, eOr, eNot, eCall, callAt, argsOf, argOf, brs, nodupB, wipeE, back, sFor, eIt, rng1, sApp, ePopAt, gtN, sNext, eUn, negD, listD, minD, sPar, settles, okL0, pl] at h; done)
end PM.porterhands_k02_wrong_texts_of_runs

set_option linter.all false
set_option maxRecDepth 100000
set_option maxHeartbeats 4000000
namespace PM.porterhands_k02_wrong_texts_of_runs
open PM
def once (b1 c : Int) : Int := ((b1 + 48271 * c) * (39373 + c)) % 2147483647
def takeV (b1 c s : Int) : Int := (((((once b1 c + c + b1 / 1000003) * (once b1 c % 40009 + 7)) % 2147483629) * 48271 + once b1 c) % 2147483587 / 64) % s
theorem okL1 : okL 1 = true := rfl
theorem okL2 : okL 2 = true := rfl
theorem okL3 : okL 3 = true := rfl
theorem okL4 : okL 4 = true := rfl
theorem take_spec (b0 b1 b2 s : Int) (h0 : 0 < s) (h1 : s < 1000) (hb : 0 ≤ b2) (hb2 : b2 < 1000000) : ∃ r b0' b2', f__law_take [.ow (.lst [.int b0, .int b1, .int b2]), .sh (.int s)] = .ok (.sh (.int r)) [.ow (.lst [.int b0', .int b1, .int b2']), .sh (.int s)] ∧ 0 ≤ r ∧ r < s ∧ 0 ≤ b2' ∧ b2' ≤ b2 + 1 := by
  have hl := log_lt h0 h1
  unfold f__law_take
  simp only [mkFn, List.length_cons, List.length_nil, if_true, frA, List.replicate, b__law_take, Nat.zero_add]
  by_cases h : 0 < b0
  · refine ⟨b0 % s, b0 / s, b2, ?_, Int.emod_nonneg _ (by omega), Int.emod_lt_of_pos _ h0, hb, by omega⟩
    simp [sSeq, sIf, andS, eTest, eOp, Ev.bind, eVar, eC, op2, look, ixD, atD, cmpI, giveAt, bl?, sAsg, eCB, eCons, eNil, looks, intD, modD, setS, settle, sSetL, eFr, frz, divD, ownL, sRet, outsOf, L2.ixN, mkFn, frA, addD, mulD, sAug, eTup, eLst, shs, lenD, absD, eIf, eAnd, eOr, eNot, eCall, callAt, argsOf, argOf, brs, nodupB, wipeE, back, sFor, eIt, rng1, sApp, ePopAt, gtN, sNext, eUn, negD, listD, minD, sPar, settles, okL0, okL1, okL2, okL3, okL4, h, h0, hl, A__law_take]
  · have e1 : ∀ j : Int, mulOk 48271 j = true := fun j => mul_l (by decide)
    have e2 : ∀ i : Int, mulOk i (39373 + (b2 + 1)) = true := fun i => mul_r (by omega)
    have e3 : ∀ i k : Int, mulOk i (k % 40009 + 7) = true := fun i k => mul_r (by omega)
    have e4 : ∀ i : Int, mulOk i 48271 = true := fun i => mul_r (by decide)
    refine ⟨takeV b1 (b2 + 1) s, b0, b2 + 1, ?_, Int.emod_nonneg _ (by omega), Int.emod_lt_of_pos _ h0, by omega, by omega⟩
    have hl2 : Nat.log2 1000003 < 9000 := by decide
    have hl3 : Nat.log2 64 < 9000 := by decide
    simp [sSeq, sIf, andS, eTest, eOp, Ev.bind, eVar, eC, op2, look, ixD, atD, cmpI, giveAt, bl?, sAsg, eCB, eCons, eNil, looks, intD, modD, setS, settle, sSetL, eFr, frz, divD, ownL, sRet, outsOf, L2.ixN, mkFn, frA, addD, mulD, sAug, eTup, eLst, shs, lenD, absD, eIf, eAnd, eOr, eNot, eCall, callAt, argsOf, argOf, brs, nodupB, wipeE, back, sFor, eIt, rng1, sApp, ePopAt, gtN, sNext, eUn, negD, listD, minD, sPar, settles, okL0, okL1, okL2, okL3, okL4, h, h0, hl, e1, e2, e3, e4, A__law_take, takeV, once, hl2, hl3]
theorem of_spec (b0 b1 b2 : Int) (ds : List D) (hd : 0 < ds.length) (hd2 : ds.length < 1000) (hb : 0 ≤ b2) (hb2 : b2 < 1000000) (g : Sl) (hg : g = .sh (.lst ds) ∨ g = .ow (.lst ds)) : ∃ (r : Nat) (d : D) (b0' b2' : Int), f__law_of [.ow (.lst [.int b0, .int b1, .int b2]), g] = .ok (.sh d) [.ow (.lst [.int b0', .int b1, .int b2']), g] ∧ ds[r]? = some d ∧ 0 ≤ b2' ∧ b2' ≤ b2 + 1 := by
  obtain ⟨r, b0', b2', e, h1, h2, h3, h4⟩ := take_spec b0 b1 b2 ds.length (by omega) (by omega) hb hb2
  obtain ⟨n, rfl⟩ := Int.eq_ofNat_of_zero_le h1
  have hn : n < ds.length := by omega
  refine ⟨n, ds[n], b0', b2', ?_, List.getElem?_eq_getElem hn, h3, h4⟩
  unfold f__law_of
  simp only [mkFn, List.length_cons, List.length_nil, if_true, frA, List.replicate, b__law_of, Nat.zero_add]
  have e2 : ds[n]? = some ds[n] := List.getElem?_eq_getElem hn
  rcases hg with rfl | rfl <;> simp [sSeq, sIf, andS, eTest, eOp, Ev.bind, eVar, eC, op2, look, ixD, atD, cmpI, giveAt, bl?, sAsg, eCB, eCons, eNil, looks, intD, modD, setS, settle, sSetL, eFr, frz, divD, ownL, sRet, outsOf, L2.ixN, mkFn, frA, addD, mulD, sAug, eTup, eLst, shs, lenD, absD, eIf, eAnd, eOr, eNot, eCall, callAt, argsOf, argOf, brs, nodupB, wipeE, back, sFor, eIt, rng1, sApp, ePopAt, gtN, sNext, eUn, negD, listD, minD, sPar, settles, okL0, okL1, okL2, okL3, okL4, A__law_of, e, hn, e2]

def Bx (n : Nat) (s : Sl) : Prop := ∃ b0 b1 b2 : Int, s = .ow (.lst [.int b0, .int b1, .int b2]) ∧ 0 ≤ b2 ∧ b2 ≤ n
theorem Bx.mono {n m : Nat} {s : Sl} (h : Bx n s) (k : n ≤ m) : Bx m s := by
  obtain ⟨b0, b1, b2, e, h1, h2⟩ := h
  exact ⟨b0, b1, b2, e, h1, by omega⟩
theorem take' {n s : Nat} {B : Sl} (h : Bx n B) (hn : n < 999999) (h0 : 0 < s) (h1 : s < 1000) : ∃ (r : Nat) (B' : Sl), f__law_take [B, .sh (.int (s : Int))] = .ok (.sh (.int (r : Int))) [B', .sh (.int (s : Int))] ∧ r < s ∧ Bx (n + 1) B' := by
  obtain ⟨b0, b1, b2, rfl, hb, hb2⟩ := h
  obtain ⟨r, b0', b2', e, q1, q2, q3, q4⟩ := take_spec b0 b1 b2 s (by omega) (by omega) hb (by omega)
  obtain ⟨k, rfl⟩ := Int.eq_ofNat_of_zero_le q1
  exact ⟨k, _, e, by omega, b0', b1, b2', rfl, q3, by omega⟩
theorem of' {n : Nat} {B g : Sl} {ds : List D} (h : Bx n B) (hn : n < 999999) (hd : 0 < ds.length) (hd2 : ds.length < 1000) (hg : g = .sh (.lst ds) ∨ g = .ow (.lst ds)) : ∃ (d : D) (B' : Sl), f__law_of [B, g] = .ok (.sh d) [B', g] ∧ d ∈ ds ∧ Bx (n + 1) B' := by
  obtain ⟨b0, b1, b2, rfl, hb, hb2⟩ := h
  obtain ⟨r, d, b0', b2', e, q1, q3, q4⟩ := of_spec b0 b1 b2 ds hd hd2 hb (by omega) g hg
  exact ⟨d, _, e, List.mem_of_getElem? q1, b0', b1, b2', rfl, q3, by omega⟩
theorem Bx.ow {n : Nat} {B : Sl} (h : Bx n B) : ∃ l, B = .ow (.lst l) := by
  obtain ⟨b0, b1, b2, e, _⟩ := h
  exact ⟨_, e⟩
theorem pick' {n c : Nat} {B : Sl} {ds : List D} (h : Bx n B) (hn : n < 999900) (hd : 0 < ds.length) (hd2 : ds.length < 50) (hc : 0 < c) (hc2 : c < 50) :
    ∃ (fs : List D) (B' : Sl), f__law_pick [B, .sh (.lst ds), .sh (.int (c : Int))] = .ok (.ow (.lst fs)) [B', .sh (.lst ds), .sh (.int (c : Int))] ∧ fs.length = min c ds.length ∧ (∀ d ∈ fs, d ∈ ds) ∧ Bx (n + 50) B' := by
  obtain ⟨l0, rfl⟩ := h.ow
  have hl : ∀ k : Nat, k < 1000 → okL k = true := fun k hk => Nat.ble_eq_true_of_le (by omega)
  unfold f__law_pick
  simp only [mkFn, List.length_cons, List.length_nil, if_true, frA, List.replicate, b__law_pick, Nat.zero_add]
  have key := forL_inv (g := gtN 5) (body := sApp 4 (ePopAt 3 (eCall f__law_take (eCons (eVar 0) (eCons (eCB lenD (eCons (eVar 3) (eNil))) (eNil))))))
    (fun i ρ => ∃ B pool found tn, ρ = [B, .sh (.lst ds), .sh (.int (c : Int)), .ow (.lst pool), .ow (.lst found), tn] ∧ Bx (n + i) B ∧ pool.length + i = ds.length ∧ found.length = i ∧ (∀ d ∈ pool, d ∈ ds) ∧ ∀ d ∈ found, d ∈ ds)
    (rngD 0 (min c ds.length)) 0 [.ow (.lst l0), .sh (.lst ds), .sh (.int (c : Int)), .ow (.lst ds), .ow (.lst []), .no] ⟨_, ds, [], _, rfl, h, by simp [sSeq, sIf, andS, eTest, eOp, Ev.bind, eVar, eC, op2, look, ixD, atD, cmpI, giveAt, bl?, sAsg, eCB, eCons, eNil, looks, intD, modD, setS, settle, sSetL, eFr, frz, divD, ownL, sRet, outsOf, L2.ixN, mkFn, frA, addD, mulD, sAug, eTup, eLst, shs, lenD, absD, eIf, eAnd, eOr, eNot, eCall, callAt, argsOf, argOf, brs, nodupB, wipeE, back, sFor, eIt, rng1, sApp, ePopAt, gtN, sNext, eUn, negD, listD, minD, sPar, settles, okL0, okL1, okL2, okL3, okL4], rfl, fun d h => h, by simp [sSeq, sIf, andS, eTest, eOp, Ev.bind, eVar, eC, op2, look, ixD, atD, cmpI, giveAt, bl?, sAsg, eCB, eCons, eNil, looks, intD, modD, setS, settle, sSetL, eFr, frz, divD, ownL, sRet, outsOf, L2.ixN, mkFn, frA, addD, mulD, sAug, eTup, eLst, shs, lenD, absD, eIf, eAnd, eOr, eNot, eCall, callAt, argsOf, argOf, brs, nodupB, wipeE, back, sFor, eIt, rng1, sApp, ePopAt, gtN, sNext, eUn, negD, listD, minD, sPar, settles, okL0, okL1, okL2, okL3, okL4]⟩ ?_
  · obtain ⟨ρ', e, B, pool, found, tn, rfl, hB, h1, h2, h3, h4⟩ := key
    have hlr : (rngD 0 (min c ds.length)).length = min c ds.length := by simp [sSeq, sIf, andS, eTest, eOp, Ev.bind, eVar, eC, op2, look, ixD, atD, cmpI, giveAt, bl?, sAsg, eCB, eCons, eNil, looks, intD, modD, setS, settle, sSetL, eFr, frz, divD, ownL, sRet, outsOf, L2.ixN, mkFn, frA, addD, mulD, sAug, eTup, eLst, shs, lenD, absD, eIf, eAnd, eOr, eNot, eCall, callAt, argsOf, argOf, brs, nodupB, wipeE, back, sFor, eIt, rng1, sApp, ePopAt, gtN, sNext, eUn, negD, listD, minD, sPar, settles, okL0, okL1, okL2, okL3, okL4, rngD]
    rw [hlr, Nat.zero_add] at hB h1 h2
    obtain ⟨m, hm⟩ : ∃ m, min c ds.length = m := ⟨_, rfl⟩
    have hm2 : (if ds.length < c then (ds.length : Int) else (c : Int)) = (m : Int) := by split <;> omega
    refine ⟨found, B, ?_, by omega, h4, hB.mono (by omega)⟩
    obtain ⟨l1, rfl⟩ := hB.ow
    rw [hm] at e
    generalize sApp 4 (ePopAt 3 (eCall f__law_take (eCons (eVar 0) (eCons (eCB lenD (eCons (eVar 3) (eNil))) (eNil))))) = bd at e ⊢
    have hb1 : (-100000 : Int) ≤ (m : Int) := by omega
    have hb2 : (m : Int) ≤ 100000 := by omega
    simp [sSeq, sIf, andS, eTest, eOp, Ev.bind, eVar, eC, op2, look, ixD, atD, cmpI, giveAt, bl?, sAsg, eCB, eCons, eNil, looks, intD, modD, setS, settle, sSetL, eFr, frz, divD, ownL, sRet, outsOf, L2.ixN, mkFn, frA, addD, mulD, sAug, eTup, eLst, shs, lenD, absD, eIf, eAnd, eOr, eNot, eCall, callAt, argsOf, argOf, brs, nodupB, wipeE, back, sFor, eIt, rng1, sApp, ePopAt, gtN, sNext, eUn, negD, listD, minD, sPar, settles, okL0, okL1, okL2, okL3, okL4, hm2, hb1, hb2, e, A__law_pick]
  · intro i d ρ hi hP
    obtain ⟨B, pool, found, tn, rfl, hB, h1, h2, h3, h4⟩ := hP
    have hi' : i < min c ds.length := by
      have := (List.getElem?_eq_some_iff.mp hi).1
      simpa [sSeq, sIf, andS, eTest, eOp, Ev.bind, eVar, eC, op2, look, ixD, atD, cmpI, giveAt, bl?, sAsg, eCB, eCons, eNil, looks, intD, modD, setS, settle, sSetL, eFr, frz, divD, ownL, sRet, outsOf, L2.ixN, mkFn, frA, addD, mulD, sAug, eTup, eLst, shs, lenD, absD, eIf, eAnd, eOr, eNot, eCall, callAt, argsOf, argOf, brs, nodupB, wipeE, back, sFor, eIt, rng1, sApp, ePopAt, gtN, sNext, eUn, negD, listD, minD, sPar, settles, okL0, okL1, okL2, okL3, okL4, rngD] using this
    rw [Nat.zero_add] at hB h1 h2
    obtain ⟨r, B', e, q1, q2⟩ := take' (s := pool.length) hB (by omega) (by omega) (by omega)
    have er : pool[r]? = some pool[r] := List.getElem?_eq_getElem q1
    obtain ⟨l0, rfl⟩ := hB.ow
    refine ⟨_, rfl, [B', .sh (.lst ds), .sh (.int (c : Int)), .ow (.lst (pool.eraseIdx r)), .ow (.lst (found ++ [pool[r]])), .sh d], .inl ?_, B', _, _, _, rfl, q2.mono (by omega), by rw [List.length_eraseIdx_of_lt q1]; omega, by simp [sSeq, sIf, andS, eTest, eOp, Ev.bind, eVar, eC, op2, look, ixD, atD, cmpI, giveAt, bl?, sAsg, eCB, eCons, eNil, looks, intD, modD, setS, settle, sSetL, eFr, frz, divD, ownL, sRet, outsOf, L2.ixN, mkFn, frA, addD, mulD, sAug, eTup, eLst, shs, lenD, absD, eIf, eAnd, eOr, eNot, eCall, callAt, argsOf, argOf, brs, nodupB, wipeE, back, sFor, eIt, rng1, sApp, ePopAt, gtN, sNext, eUn, negD, listD, minD, sPar, settles, okL0, okL1, okL2, okL3, okL4, h2], fun x hx => h3 x (List.mem_of_mem_eraseIdx hx), fun x hx => ?_⟩
    · obtain ⟨l1, rfl⟩ := q2.ow
      simp [sSeq, sIf, andS, eTest, eOp, Ev.bind, eVar, eC, op2, look, ixD, atD, cmpI, giveAt, bl?, sAsg, eCB, eCons, eNil, looks, intD, modD, setS, settle, sSetL, eFr, frz, divD, ownL, sRet, outsOf, L2.ixN, mkFn, frA, addD, mulD, sAug, eTup, eLst, shs, lenD, absD, eIf, eAnd, eOr, eNot, eCall, callAt, argsOf, argOf, brs, nodupB, wipeE, back, sFor, eIt, rng1, sApp, ePopAt, gtN, sNext, eUn, negD, listD, minD, sPar, settles, okL0, okL1, okL2, okL3, okL4, e, q1, er, hl pool.length (by omega), hl found.length (by omega)]
      trace_state
    · rcases List.mem_append.mp hx with z | z
      · exact h4 x z
      · rw [List.mem_singleton.mp z]
        exact h3 _ (List.getElem_mem q1)

def names : List (List Nat) := [[97], [97, 98], [98], [120], [98, 97, 103], [98, 97, 103, 115], [97, 110, 100], [110, 111], [97, 98, 99, 100, 101, 102, 103, 104], [97, 98, 99, 100, 101, 102, 103, 105], [122], [122, 122]]
theorem take4 {n : Nat} {B : Sl} (h : Bx n B) (hn : n < 999999) : ∃ (r : Nat) (B' : Sl), f__law_take [B, .sh (.int 4)] = .ok (.sh (.int (r : Int))) [B', .sh (.int 4)] ∧ r < 4 ∧ Bx (n + 1) B' := take' (s := 4) h hn (by decide) (by decide)
theorem take7 {n : Nat} {B : Sl} (h : Bx n B) (hn : n < 999999) : ∃ (r : Nat) (B' : Sl), f__law_take [B, .sh (.int 7)] = .ok (.sh (.int (r : Int))) [B', .sh (.int 7)] ∧ r < 7 ∧ Bx (n + 1) B' := take' (s := 7) h hn (by decide) (by decide)
theorem take9 {n : Nat} {B : Sl} (h : Bx n B) (hn : n < 999999) : ∃ (r : Nat) (B' : Sl), f__law_take [B, .sh (.int 9)] = .ok (.sh (.int (r : Int))) [B', .sh (.int 9)] ∧ r < 9 ∧ Bx (n + 1) B' := take' (s := 9) h hn (by decide) (by decide)
def poolsD : List D := [.lst [.str [97], .str [97, 98], .str [98], .str [120]], .lst [.str [98, 97, 103], .str [98, 97, 103, 115], .str [97, 110, 100], .str [110, 111]], .lst [.str [97, 98, 99, 100, 101, 102, 103, 104], .str [97, 98, 99, 100, 101, 102, 103, 105], .str [122], .str [122, 122]]]
theorem pools_names : ∀ d ∈ poolsD, ∃ l : List (List Nat), d = .lst (l.map D.str) ∧ l.length = 4 ∧ ∀ s ∈ l, s ∈ names := by
  intro d hd
  simp only [poolsD, List.mem_cons, List.not_mem_nil, or_false] at hd
  rcases hd with rfl | rfl | rfl
  · exact ⟨[[97], [97, 98], [98], [120]], rfl, rfl, by decide⟩
  · exact ⟨[[98, 97, 103], [98, 97, 103, 115], [97, 110, 100], [110, 111]], rfl, rfl, by decide⟩
  · exact ⟨[[97, 98, 99, 100, 101, 102, 103, 104], [97, 98, 99, 100, 101, 102, 103, 105], [122], [122, 122]], rfl, rfl, by decide⟩
theorem strs_of {fs : List D} {l : List (List Nat)} (h : ∀ d ∈ fs, d ∈ l.map D.str) (hl : ∀ s ∈ l, s ∈ names) : ∃ ts : List (List Nat), fs = ts.map D.str ∧ ∀ s ∈ ts, s ∈ names := by
  induction fs with
  | nil => exact ⟨[], rfl, by simp [sSeq, sIf, andS, eTest, eOp, Ev.bind, eVar, eC, op2, look, ixD, atD, cmpI, giveAt, bl?, sAsg, eCB, eCons, eNil, looks, intD, modD, setS, settle, sSetL, eFr, frz, divD, ownL, sRet, outsOf, L2.ixN, mkFn, frA, addD, mulD, sAug, eTup, eLst, shs, lenD, absD, eIf, eAnd, eOr, eNot, eCall, callAt, argsOf, argOf, brs, nodupB, wipeE, back, sFor, eIt, rng1, sApp, ePopAt, gtN, sNext, eUn, negD, listD, minD, sPar, settles, okL0, okL1, okL2, okL3, okL4]⟩
  | cons d fs ih =>
    obtain ⟨ts, e, ht⟩ := ih fun x hx => h x (List.mem_cons_of_mem _ hx)
    obtain ⟨s, hs, rfl⟩ := List.mem_map.mp (h d List.mem_cons_self)
    exact ⟨s :: ts, by rw [e]; rfl, by simpa [sSeq, sIf, andS, eTest, eOp, Ev.bind, eVar, eC, op2, look, ixD, atD, cmpI, giveAt, bl?, sAsg, eCB, eCons, eNil, looks, intD, modD, setS, settle, sSetL, eFr, frz, divD, ownL, sRet, outsOf, L2.ixN, mkFn, frA, addD, mulD, sAug, eTup, eLst, shs, lenD, absD, eIf, eAnd, eOr, eNot, eCall, callAt, argsOf, argOf, brs, nodupB, wipeE, back, sFor, eIt, rng1, sApp, ePopAt, gtN, sNext, eUn, negD, listD, minD, sPar, settles, okL0, okL1, okL2, okL3, okL4] using ⟨hl s hs, ht⟩⟩
theorem kinds' {n : Nat} {B : Sl} (h : Bx n B) (hn : n < 999800) : ∃ (ts : List (List Nat)) (B' : Sl), f__law_kinds [B] = .ok (.ow (.lst (ts.map D.str))) [B'] ∧ 0 < ts.length ∧ ts.length < 50 ∧ (∀ s ∈ ts, s ∈ names) ∧ Bx (n + 52) B' := by
  obtain ⟨d, B1, e1, hd, h1⟩ := of' (ds := poolsD) (g := .ow (.lst poolsD)) h (by omega) (by decide) (by decide) (.inr rfl)
  obtain ⟨l, rfl, hl1, hl2⟩ := pools_names d hd
  obtain ⟨r, B2, e2, hr, h2⟩ := take4 h1 (by omega)
  obtain ⟨fs, B3, e3, f1, f2, h3⟩ := pick' (c := 1 + r) (ds := l.map D.str) h2 (by omega) (by simp [sSeq, sIf, andS, eTest, eOp, Ev.bind, eVar, eC, op2, look, ixD, atD, cmpI, giveAt, bl?, sAsg, eCB, eCons, eNil, looks, intD, modD, setS, settle, sSetL, eFr, frz, divD, ownL, sRet, outsOf, L2.ixN, mkFn, frA, addD, mulD, sAug, eTup, eLst, shs, lenD, absD, eIf, eAnd, eOr, eNot, eCall, callAt, argsOf, argOf, brs, nodupB, wipeE, back, sFor, eIt, rng1, sApp, ePopAt, gtN, sNext, eUn, negD, listD, minD, sPar, settles, okL0, okL1, okL2, okL3, okL4, hl1]) (by simp [sSeq, sIf, andS, eTest, eOp, Ev.bind, eVar, eC, op2, look, ixD, atD, cmpI, giveAt, bl?, sAsg, eCB, eCons, eNil, looks, intD, modD, setS, settle, sSetL, eFr, frz, divD, ownL, sRet, outsOf, L2.ixN, mkFn, frA, addD, mulD, sAug, eTup, eLst, shs, lenD, absD, eIf, eAnd, eOr, eNot, eCall, callAt, argsOf, argOf, brs, nodupB, wipeE, back, sFor, eIt, rng1, sApp, ePopAt, gtN, sNext, eUn, negD, listD, minD, sPar, settles, okL0, okL1, okL2, okL3, okL4, hl1]) (by omega) (by omega)
  obtain ⟨ts, rfl, ht⟩ := strs_of f2 hl2
  rw [List.length_map, List.length_map, hl1] at f1
  refine ⟨ts, B3, ?_, by omega, by omega, ht, h3⟩
  have c1 : ((1 + r : Nat) : Int) = 1 + (r : Int) := by omega
  rw [c1] at e3
  obtain ⟨l0, rfl⟩ := h.ow
  obtain ⟨l1, rfl⟩ := h1.ow
  obtain ⟨l2, rfl⟩ := h2.ow
  obtain ⟨l3, rfl⟩ := h3.ow
  unfold poolsD at e1
  unfold f__law_kinds
  simp only [mkFn, List.length_cons, List.length_nil, if_true, frA, List.replicate, b__law_kinds, Nat.zero_add]
  simp [sSeq, sIf, andS, eTest, eOp, Ev.bind, eVar, eC, op2, look, ixD, atD, cmpI, giveAt, bl?, sAsg, eCB, eCons, eNil, looks, intD, modD, setS, settle, sSetL, eFr, frz, divD, ownL, sRet, outsOf, L2.ixN, mkFn, frA, addD, mulD, sAug, eTup, eLst, shs, lenD, absD, eIf, eAnd, eOr, eNot, eCall, callAt, argsOf, argOf, brs, nodupB, wipeE, back, sFor, eIt, rng1, sApp, ePopAt, gtN, sNext, eUn, negD, listD, minD, sPar, settles, okL0, okL1, okL2, okL3, okL4, e1, e2, e3, A__law_kinds]

def counts : List Nat := [1, 2, 3, 10, 10000000000000000000, 10000000000000000001, 10000000000000000002, 10000000000000000003, 10000000000000000004, 10000000000000000005, 10000000000000000006, 10000000000000000007, 10000000000000000008]
abbrev Rn := List Nat × Nat
def rn (b : Rn) : D := .tup [.str b.1, .int (b.2 : Int)]
def okR (b : Rn) : Prop := b.1 ∈ names ∧ b.2 ∈ counts
/-- no two neighbours of a kind -/
def adj : List Rn → Prop
  | [] => True
  | [_] => True
  | a :: b :: r => a.1 ≠ b.1 ∧ adj (b :: r)
theorem adj_snoc : ∀ {l : List Rn} {x : Rn}, adj l → (∀ y, l.getLast? = some y → y.1 ≠ x.1) → adj (l ++ [x])
  | [], x, _, _ => trivial
  | [a], x, _, h => ⟨h a rfl, trivial⟩
  | a :: b :: r, x, h, hl => ⟨h.1, adj_snoc h.2 fun y hy => hl y (by rw [List.getLast?_cons_cons]; exact hy)⟩
theorem names_small : ∀ s ∈ names, (s.all fun c => Nat.blt c 1114112) = true := by decide
theorem isPys_rn : ∀ {l : List Rn}, (∀ b ∈ l, okR b) → isPys (l.map rn) = true
  | [], _ => rfl
  | b :: l, h => by
    show (isPy (rn b) && isPys (l.map rn)) = true
    rw [isPys_rn fun x hx => h x (List.mem_cons_of_mem _ hx), Bool.and_true]
    show (isPy (.str b.1) && (isPy (.int b.2) && isPys [])) = true
    have q := names_small b.1 (h b List.mem_cons_self).1
    show ((b.1.all fun c => Nat.blt c 1114112) && (true && true)) = true
    rw [q]
    rfl
theorem deps_rn : ∀ l : List Rn, deps (l.map rn) ≤ 1
  | [] => Nat.zero_le _
  | b :: l => by
    show max (dep (rn b)) (deps (l.map rn)) ≤ 1
    have h1 : dep (rn b) = 1 := rfl
    have h2 := deps_rn l
    omega
theorem okPy_lst {l : List Rn} (h : ∀ b ∈ l, okR b) : okPy (.lst (l.map rn)) = true := by
  unfold okPy
  rw [Bool.and_eq_true]
  refine ⟨isPys_rn h, Nat.ble_eq_true_of_le ?_⟩
  show deps (l.map rn) + 1 ≤ 64
  have := deps_rn l
  omega
theorem okPy_tup {l : List Rn} (h : ∀ b ∈ l, okR b) : okPy (.tup (l.map rn)) = true := by
  unfold okPy
  rw [Bool.and_eq_true]
  refine ⟨isPys_rn h, Nat.ble_eq_true_of_le ?_⟩
  show deps (l.map rn) + 1 ≤ 64
  have := deps_rn l
  omega
theorem okPy_name {s : List Nat} (h : s ∈ names) : okPy (.str s) = true := by
  unfold okPy
  rw [Bool.and_eq_true]
  exact ⟨names_small s h, rfl⟩
theorem cnt_of {r : Nat} (h : r < 9) : ∀ d ∈ [D.int 1, D.int 1, D.int 2, D.int 3, D.int 10, D.int (10000000000000000000 + (r : Int))], ∃ c : Nat, d = .int (c : Int) ∧ c ∈ counts := by
  intro d hd
  simp only [List.mem_cons, List.not_mem_nil, or_false] at hd
  rcases hd with rfl | rfl | rfl | rfl | rfl | rfl
  · exact ⟨1, rfl, by decide⟩
  · exact ⟨1, rfl, by decide⟩
  · exact ⟨2, rfl, by decide⟩
  · exact ⟨3, rfl, by decide⟩
  · exact ⟨10, rfl, by decide⟩
  · refine ⟨10000000000000000000 + r, by simp [sSeq, sIf, andS, eTest, eOp, Ev.bind, eVar, eC, op2, look, ixD, atD, cmpI, giveAt, bl?, sAsg, eCB, eCons, eNil, looks, intD, modD, setS, settle, sSetL, eFr, frz, divD, ownL, sRet, outsOf, L2.ixN, mkFn, frA, addD, mulD, sAug, eTup, eLst, shs, lenD, absD, eIf, eAnd, eOr, eNot, eCall, callAt, argsOf, argOf, brs, nodupB, wipeE, back, sFor, eIt, rng1, sApp, ePopAt, gtN, sNext, eUn, negD, listD, minD, sPar, settles, okL0, okL1, okL2, okL3, okL4], ?_⟩
    have : r = 0 ∨ r = 1 ∨ r = 2 ∨ r = 3 ∨ r = 4 ∨ r = 5 ∨ r = 6 ∨ r = 7 ∨ r = 8 := by omega
    rcases this with rfl | rfl | rfl | rfl | rfl | rfl | rfl | rfl | rfl <;> decide
theorem deq_nil (l : List Rn) : deq (.lst (l.map rn)) (.lst []) = l.isEmpty := by cases l <;> rfl
theorem last_rn {l : List Rn} {y : Rn} (h : l.getLast? = some y) : atD (l.map rn) (-1) = some (rn y) := by
  unfold atD
  rw [if_neg (by decide)]
  have hne : l ≠ [] := fun z => by subst z; cases h
  have hl : 0 < l.length := List.length_pos_iff.mpr hne
  rw [List.length_map, if_pos (by omega)]
  have e : ((-1 : Int) + (l.length : Int)).toNat = l.length - 1 := by omega
  rw [e, List.getElem?_map, ← List.getLast?_eq_getElem?, h]
  rfl
theorem at0 {a : D} {l : List D} : atD (a :: l) (0 : Int) = some a := by simp [sSeq, sIf, andS, eTest, eOp, Ev.bind, eVar, eC, op2, look, ixD, atD, cmpI, giveAt, bl?, sAsg, eCB, eCons, eNil, looks, intD, modD, setS, settle, sSetL, eFr, frz, divD, ownL, sRet, outsOf, L2.ixN, mkFn, frA, addD, mulD, sAug, eTup, eLst, shs, lenD, absD, eIf, eAnd, eOr, eNot, eCall, callAt, argsOf, argOf, brs, nodupB, wipeE, back, sFor, eIt, rng1, sApp, ePopAt, gtN, sNext, eUn, negD, listD, minD, sPar, settles, okL0, okL1, okL2, okL3, okL4, atD]
def bitBody : Sv := sSeq (sAsg 5 (eCall f__law_of (eCons (eVar 0) (eCons (eVar 1) (eNil))))) (sIf (eOr (eTest (eOp eqD (eVar 3) (eLst (eNil)))) (eTest (eOp neD (eOp ixD (eOp ixD (eVar 3) (eUn negD (eC (.int 1)))) (eC (.int 0))) (eVar 5)))) (sApp 3 (eTup (eCons (eFr (eVar 5)) (eCons (eFr (eCall f__law_of (eCons (eVar 0) (eCons (eLst (eCons (eC (.int 1)) (eCons (eC (.int 1)) (eCons (eC (.int 2)) (eCons (eC (.int 3)) (eCons (eC (.int 10)) (eCons (eOp addD (eOp powD (eC (.int 10)) (eC (.int 19))) (eCall f__law_take (eCons (eVar 0) (eCons (eC (.int 9)) (eNil))))) (eNil)))))))) (eNil))))) (eNil))))) (sNext))
theorem bit_step {n : Nat} {B x2 x4 x5 : Sl} {ts : List (List Nat)} {l : List Rn} {g : Sl} (h : Bx n B) (hn : n < 999990) (ht : 0 < ts.length) (ht2 : ts.length < 50) (hts : ∀ s ∈ ts, s ∈ names) (hg : g = .sh (.lst (ts.map D.str)) ∨ g = .ow (.lst (ts.map D.str))) (hl : ∀ b ∈ l, okR b) (ha : adj l) (hll : l.length < 50) :
    ∃ (B' : Sl) (l' : List Rn) (y : Sl), bitBody [B, g, x2, .ow (.lst (l.map rn)), x4, x5] = .nx [B', g, x2, .ow (.lst (l'.map rn)), x4, y] ∧ Bx (n + 3) B' ∧ (∀ b ∈ l', okR b) ∧ adj l' ∧ l'.length ≤ l.length + 1 := by
  obtain ⟨d, B1, e1, hd, h1⟩ := of' (ds := ts.map D.str) (g := g) h (by omega) (by rw [List.length_map]; exact ht) (by rw [List.length_map]; omega) hg
  obtain ⟨s, hs, rfl⟩ := List.mem_map.mp hd
  obtain ⟨r, B2, e2, hr, h2⟩ := take9 h1 (by omega)
  obtain ⟨d, B3, e3, hd3, h3⟩ := of' (ds := [D.int 1, D.int 1, D.int 2, D.int 3, D.int 10, D.int (10000000000000000000 + (r : Int))]) (g := .ow (.lst [D.int 1, D.int 1, D.int 2, D.int 3, D.int 10, D.int (10000000000000000000 + (r : Int))])) h2 (by omega) (by simp [sSeq, sIf, andS, eTest, eOp, Ev.bind, eVar, eC, op2, look, ixD, atD, cmpI, giveAt, bl?, sAsg, eCB, eCons, eNil, looks, intD, modD, setS, settle, sSetL, eFr, frz, divD, ownL, sRet, outsOf, L2.ixN, mkFn, frA, addD, mulD, sAug, eTup, eLst, shs, lenD, absD, eIf, eAnd, eOr, eNot, eCall, callAt, argsOf, argOf, brs, nodupB, wipeE, back, sFor, eIt, rng1, sApp, ePopAt, gtN, sNext, eUn, negD, listD, minD, sPar, settles, okL0, okL1, okL2, okL3, okL4]) (by simp [sSeq, sIf, andS, eTest, eOp, Ev.bind, eVar, eC, op2, look, ixD, atD, cmpI, giveAt, bl?, sAsg, eCB, eCons, eNil, looks, intD, modD, setS, settle, sSetL, eFr, frz, divD, ownL, sRet, outsOf, L2.ixN, mkFn, frA, addD, mulD, sAug, eTup, eLst, shs, lenD, absD, eIf, eAnd, eOr, eNot, eCall, callAt, argsOf, argOf, brs, nodupB, wipeE, back, sFor, eIt, rng1, sApp, ePopAt, gtN, sNext, eUn, negD, listD, minD, sPar, settles, okL0, okL1, okL2, okL3, okL4]) (.inr rfl)
  obtain ⟨c, rfl, hc⟩ := cnt_of hr d hd3
  have hs' := hts s hs
  have p1 := okPy_lst hl
  have p2 : okPy (.lst []) = true := rfl
  have p3 := okPy_name hs'
  have hk : okL l.length = true := Nat.ble_eq_true_of_le (by omega)
  have hp : Nat.blt 10 18446744073709551616 = true := rfl
  have ok6 : okL 6 = true := rfl
  obtain ⟨l0, rfl⟩ := h.ow
  obtain ⟨l1, rfl⟩ := h1.ow
  obtain ⟨l2, rfl⟩ := h2.ow
  obtain ⟨l3, rfl⟩ := h3.ow
  have fin : ∀ y, l.getLast? = some y → y.1 ≠ s → adj (l ++ [(s, c)]) := fun y hy hne => adj_snoc ha fun z hz => by
    rw [hy] at hz
    cases hz
    exact hne
  cases hlast : l.getLast? with
  | none =>
    have hnil : l = [] := List.getLast?_eq_none_iff.mp hlast
    subst hnil
    refine ⟨_, [(s, c)], .sh (.str s), ?_, h3, ?_, trivial, by simp [sSeq, sIf, andS, eTest, eOp, Ev.bind, eVar, eC, op2, look, ixD, atD, cmpI, giveAt, bl?, sAsg, eCB, eCons, eNil, looks, intD, modD, setS, settle, sSetL, eFr, frz, divD, ownL, sRet, outsOf, L2.ixN, mkFn, frA, addD, mulD, sAug, eTup, eLst, shs, lenD, absD, eIf, eAnd, eOr, eNot, eCall, callAt, argsOf, argOf, brs, nodupB, wipeE, back, sFor, eIt, rng1, sApp, ePopAt, gtN, sNext, eUn, negD, listD, minD, sPar, settles, okL0, okL1, okL2, okL3, okL4]⟩
    · rcases hg with rfl | rfl <;> simp [sSeq, sIf, andS, eTest, eOp, Ev.bind, eVar, eC, op2, look, ixD, atD, cmpI, giveAt, bl?, sAsg, eCB, eCons, eNil, looks, intD, modD, setS, settle, sSetL, eFr, frz, divD, ownL, sRet, outsOf, L2.ixN, mkFn, frA, addD, mulD, sAug, eTup, eLst, shs, lenD, absD, eIf, eAnd, eOr, eNot, eCall, callAt, argsOf, argOf, brs, nodupB, wipeE, back, sFor, eIt, rng1, sApp, ePopAt, gtN, sNext, eUn, negD, listD, minD, sPar, settles, okL0, okL1, okL2, okL3, okL4, bitBody, e1, e2, e3, eqD, p2, deq, deqs, hp, powD, rn, ok6]
    · intro b hb
      rw [List.mem_singleton.mp hb]
      exact ⟨hs', hc⟩
  | some y =>
    have hy : okR y := hl y (List.mem_of_getLast? hlast)
    have p4 := okPy_name hy.1
    have hat := last_rn hlast
    have hne : l ≠ [] := fun z => by subst z; cases hlast
    have hde : deq (.lst (l.map rn)) (.lst []) = false := by rw [deq_nil]; cases l with
      | nil => exact absurd rfl hne
      | cons a l => rfl
    by_cases hq : y.1 = s
    · refine ⟨_, l, .sh (.str s), ?_, h1.mono (by omega), hl, ha, by omega⟩
      rcases hg with rfl | rfl <;> simp [sSeq, sIf, andS, eTest, eOp, Ev.bind, eVar, eC, op2, look, ixD, cmpI, giveAt, bl?, sAsg, eCB, eCons, eNil, looks, intD, modD, setS, settle, sSetL, eFr, frz, divD, ownL, sRet, outsOf, L2.ixN, mkFn, frA, addD, mulD, sAug, eTup, eLst, shs, lenD, absD, eIf, eAnd, eOr, eNot, eCall, callAt, argsOf, argOf, brs, nodupB, wipeE, back, sFor, eIt, rng1, sApp, ePopAt, gtN, sNext, eUn, negD, listD, minD, sPar, settles, okL0, okL1, okL2, okL3, okL4, bitBody, e1, eqD, neD, p1, p2, p3, p4, hde, hat, at0, rn, deq_str, hq]
    · refine ⟨_, l ++ [(s, c)], .sh (.str s), ?_, h3, ?_, fin y hlast hq, by simp [sSeq, sIf, andS, eTest, eOp, Ev.bind, eVar, eC, op2, look, ixD, atD, cmpI, giveAt, bl?, sAsg, eCB, eCons, eNil, looks, intD, modD, setS, settle, sSetL, eFr, frz, divD, ownL, sRet, outsOf, L2.ixN, mkFn, frA, addD, mulD, sAug, eTup, eLst, shs, lenD, absD, eIf, eAnd, eOr, eNot, eCall, callAt, argsOf, argOf, brs, nodupB, wipeE, back, sFor, eIt, rng1, sApp, ePopAt, gtN, sNext, eUn, negD, listD, minD, sPar, settles, okL0, okL1, okL2, okL3, okL4]⟩
      · rcases hg with rfl | rfl <;> simp [sSeq, sIf, andS, eTest, eOp, Ev.bind, eVar, eC, op2, look, ixD, cmpI, giveAt, bl?, sAsg, eCB, eCons, eNil, looks, intD, modD, setS, settle, sSetL, eFr, frz, divD, ownL, sRet, outsOf, L2.ixN, mkFn, frA, addD, mulD, sAug, eTup, eLst, shs, lenD, absD, eIf, eAnd, eOr, eNot, eCall, callAt, argsOf, argOf, brs, nodupB, wipeE, back, sFor, eIt, rng1, sApp, ePopAt, gtN, sNext, eUn, negD, listD, minD, sPar, settles, okL0, okL1, okL2, okL3, okL4, bitBody, e1, e2, e3, eqD, neD, p1, p2, p3, p4, hde, hat, at0, rn, deq_str, hq, hp, powD, ok6, hk]
      · intro b hb
        rcases List.mem_append.mp hb with z | z
        · exact hl b z
        · rw [List.mem_singleton.mp z]; exact ⟨hs', hc⟩

theorem bits' {n : Nat} {B : Sl} {ts : List (List Nat)} (h : Bx n B) (hn : n < 999900) (ht : 0 < ts.length) (ht2 : ts.length < 50) (hts : ∀ s ∈ ts, s ∈ names) :
    ∃ (B' : Sl) (l : List Rn), f__law_bits [B, .ow (.lst (ts.map D.str)), .sh (.int 6)] = .ok (.sh (.tup (l.map rn))) [B', .ow (.lst (ts.map D.str)), .sh (.int 6)] ∧ Bx (n + 22) B' ∧ (∀ b ∈ l, okR b) ∧ adj l ∧ l.length ≤ 6 := by
  obtain ⟨m, B1, e1, hm, h1⟩ := take7 h (by omega)
  have key := forL_inv (g := gtN 4) (body := bitBody)
    (fun i ρ => ∃ (B : Sl) (l : List Rn) (x4 x5 : Sl), ρ = [B, .ow (.lst (ts.map D.str)), .sh (.int 6), .ow (.lst (l.map rn)), x4, x5] ∧ Bx (n + 1 + 3 * i) B ∧ (∀ b ∈ l, okR b) ∧ adj l ∧ l.length ≤ i)
    (rngD 0 m) 0 [B1, .ow (.lst (ts.map D.str)), .sh (.int 6), .ow (.lst []), .no, .no] ⟨B1, [], .no, .no, rfl, h1.mono (by omega), by simp [sSeq, sIf, andS, eTest, eOp, Ev.bind, eVar, eC, op2, look, ixD, atD, cmpI, giveAt, bl?, sAsg, eCB, eCons, eNil, looks, intD, modD, setS, settle, sSetL, eFr, frz, divD, ownL, sRet, outsOf, L2.ixN, mkFn, frA, addD, mulD, sAug, eTup, eLst, shs, lenD, absD, eIf, eAnd, eOr, eNot, eCall, callAt, argsOf, argOf, brs, nodupB, wipeE, back, sFor, eIt, rng1, sApp, ePopAt, gtN, sNext, eUn, negD, listD, minD, sPar, settles, okL0, okL1, okL2, okL3, okL4], trivial, Nat.le_refl _⟩ ?_
  · obtain ⟨ρ', e, B2, l, x4, x5, rfl, hB, q1, q2, q3⟩ := key
    have hlr : (rngD 0 m).length = m := by simp [sSeq, sIf, andS, eTest, eOp, Ev.bind, eVar, eC, op2, look, ixD, atD, cmpI, giveAt, bl?, sAsg, eCB, eCons, eNil, looks, intD, modD, setS, settle, sSetL, eFr, frz, divD, ownL, sRet, outsOf, L2.ixN, mkFn, frA, addD, mulD, sAug, eTup, eLst, shs, lenD, absD, eIf, eAnd, eOr, eNot, eCall, callAt, argsOf, argOf, brs, nodupB, wipeE, back, sFor, eIt, rng1, sApp, ePopAt, gtN, sNext, eUn, negD, listD, minD, sPar, settles, okL0, okL1, okL2, okL3, okL4, rngD]
    rw [hlr, Nat.zero_add] at hB q3
    refine ⟨B2, l, ?_, hB.mono (by omega), q1, q2, by omega⟩
    obtain ⟨l0, rfl⟩ := h.ow
    obtain ⟨l1, rfl⟩ := h1.ow
    obtain ⟨l2, rfl⟩ := hB.ow
    have hb1 : (-100000 : Int) ≤ (m : Int) := by omega
    have hb2 : (m : Int) ≤ 100000 := by omega
    unfold f__law_bits
    simp only [mkFn, List.length_cons, List.length_nil, if_true, frA, List.replicate, b__law_bits, Nat.zero_add]
    rw [show (sSeq (sAsg 5 (eCall f__law_of (eCons (eVar 0) (eCons (eVar 1) (eNil))))) (sIf (eOr (eTest (eOp eqD (eVar 3) (eLst (eNil)))) (eTest (eOp neD (eOp ixD (eOp ixD (eVar 3) (eUn negD (eC (.int 1)))) (eC (.int 0))) (eVar 5)))) (sApp 3 (eTup (eCons (eFr (eVar 5)) (eCons (eFr (eCall f__law_of (eCons (eVar 0) (eCons (eLst (eCons (eC (.int 1)) (eCons (eC (.int 1)) (eCons (eC (.int 2)) (eCons (eC (.int 3)) (eCons (eC (.int 10)) (eCons (eOp addD (eOp powD (eC (.int 10)) (eC (.int 19))) (eCall f__law_take (eCons (eVar 0) (eCons (eC (.int 9)) (eNil))))) (eNil)))))))) (eNil))))) (eNil))))) (sNext))) = bitBody from rfl]
    generalize bitBody = bd at e ⊢
    simp [sSeq, sIf, andS, eTest, eOp, Ev.bind, eVar, eC, op2, look, ixD, atD, cmpI, giveAt, bl?, sAsg, eCB, eCons, eNil, looks, intD, modD, setS, settle, sSetL, eFr, frz, divD, ownL, sRet, outsOf, L2.ixN, mkFn, frA, addD, mulD, sAug, eTup, eLst, shs, lenD, absD, eIf, eAnd, eOr, eNot, eCall, callAt, argsOf, argOf, brs, nodupB, wipeE, back, sFor, eIt, rng1, sApp, ePopAt, gtN, sNext, eUn, negD, listD, minD, sPar, settles, okL0, okL1, okL2, okL3, okL4, e1, e, hb1, hb2, A__law_bits, tupleD]
  · intro i d ρ hi hP
    have hi' : i < m := by
      have := (List.getElem?_eq_some_iff.mp hi).1
      simpa [sSeq, sIf, andS, eTest, eOp, Ev.bind, eVar, eC, op2, look, ixD, atD, cmpI, giveAt, bl?, sAsg, eCB, eCons, eNil, looks, intD, modD, setS, settle, sSetL, eFr, frz, divD, ownL, sRet, outsOf, L2.ixN, mkFn, frA, addD, mulD, sAug, eTup, eLst, shs, lenD, absD, eIf, eAnd, eOr, eNot, eCall, callAt, argsOf, argOf, brs, nodupB, wipeE, back, sFor, eIt, rng1, sApp, ePopAt, gtN, sNext, eUn, negD, listD, minD, sPar, settles, okL0, okL1, okL2, okL3, okL4, rngD] using this
    obtain ⟨B, l, x4, x5, rfl, hB, q1, q2, q3⟩ := hP
    rw [Nat.zero_add] at hB q3
    obtain ⟨B', l', y, e, k1, k2, k3, k4⟩ := bit_step (x2 := .sh (.int 6)) (x4 := .sh d) (x5 := x5) hB (by omega) ht ht2 hts (.inr rfl) q1 q2 (by omega)
    exact ⟨_, rfl, _, .inl e, B', l', _, _, rfl, k1.mono (by omega), k2, k3, by omega⟩
/-! ### the words -/
def cw (b : Rn) : List Nat := b.1 ++ [32] ++ TL.numL b.2
def goodB (b : Rn) : Bool := match f_run_in [.sh (.str (cw b))] with
  | .ok (.sh (.tup [.str a, .int i])) [.sh (.str t)] => a == b.1 && (i == (b.2 : Int) && t == cw b)
  | _ => false
def badB (p : List Nat) : Bool := match f_run_in [.sh (.str p)] with
  | .ok (.sh .non) [.sh (.str t)] => t == p
  | _ => false
def bents (p : List Nat) : List (List Nat) := [p ++ [120], p ++ [59], p ++ [32, 49], p ++ [32], p ++ [44], PySem.StrLaws.replL [32] [32, 32] p, PySem.StrLaws.replL [32] [] p, PySem.StrLaws.replL [32] [95] p, PySem.StrLaws.replL [32] [32, 48] p, [], [110, 111, 110, 101], [110, 111, 110, 101, 32, 48], [53, 32, 110, 111, 110, 101], [53], [32] ++ p, [43] ++ p, [65] ++ p]
/-- no separator begins within p, whatever stands behind p and its separator -/
def freeB : List Nat → Bool
  | [] => true
  | [_] => true
  | c :: d :: r => !(Nat.beq c 59 && Nat.beq d 32) && freeB (d :: r)
theorem freeB_ok : ∀ p : List Nat, freeB p = true → ∀ i, i < p.length → TL.pre [59, 32] ((p ++ [59, 32]).drop i) = false ∧ TL.pre [59, 32] (p.drop i) = false
  | [], _, i, h => by simp [sSeq, sIf, andS, eTest, eOp, Ev.bind, eVar, eC, op2, look, ixD, atD, cmpI, giveAt, bl?, sAsg, eCB, eCons, eNil, looks, intD, modD, setS, settle, sSetL, eFr, frz, divD, ownL, sRet, outsOf, L2.ixN, mkFn, frA, addD, mulD, sAug, eTup, eLst, shs, lenD, absD, eIf, eAnd, eOr, eNot, eCall, callAt, argsOf, argOf, brs, nodupB, wipeE, back, sFor, eIt, rng1, sApp, ePopAt, gtN, sNext, eUn, negD, listD, minD, sPar, settles, okL0, okL1, okL2, okL3, okL4] at h
  | [c], _, 0, _ => by
    constructor
    · show ([c, 59] == [59, 32]) = false
      exact beq_eq_false_iff_ne.mpr fun z => by simp [sSeq, sIf, andS, eTest, eOp, Ev.bind, eVar, eC, op2, look, ixD, atD, cmpI, giveAt, bl?, sAsg, eCB, eCons, eNil, looks, intD, modD, setS, settle, sSetL, eFr, frz, divD, ownL, sRet, outsOf, L2.ixN, mkFn, frA, addD, mulD, sAug, eTup, eLst, shs, lenD, absD, eIf, eAnd, eOr, eNot, eCall, callAt, argsOf, argOf, brs, nodupB, wipeE, back, sFor, eIt, rng1, sApp, ePopAt, gtN, sNext, eUn, negD, listD, minD, sPar, settles, okL0, okL1, okL2, okL3, okL4] at z
    · show ([c] == [59, 32]) = false
      exact beq_eq_false_iff_ne.mpr fun z => by simp [sSeq, sIf, andS, eTest, eOp, Ev.bind, eVar, eC, op2, look, ixD, atD, cmpI, giveAt, bl?, sAsg, eCB, eCons, eNil, looks, intD, modD, setS, settle, sSetL, eFr, frz, divD, ownL, sRet, outsOf, L2.ixN, mkFn, frA, addD, mulD, sAug, eTup, eLst, shs, lenD, absD, eIf, eAnd, eOr, eNot, eCall, callAt, argsOf, argOf, brs, nodupB, wipeE, back, sFor, eIt, rng1, sApp, ePopAt, gtN, sNext, eUn, negD, listD, minD, sPar, settles, okL0, okL1, okL2, okL3, okL4] at z
  | [c], _, i + 1, h => by simp [sSeq, sIf, andS, eTest, eOp, Ev.bind, eVar, eC, op2, look, ixD, atD, cmpI, giveAt, bl?, sAsg, eCB, eCons, eNil, looks, intD, modD, setS, settle, sSetL, eFr, frz, divD, ownL, sRet, outsOf, L2.ixN, mkFn, frA, addD, mulD, sAug, eTup, eLst, shs, lenD, absD, eIf, eAnd, eOr, eNot, eCall, callAt, argsOf, argOf, brs, nodupB, wipeE, back, sFor, eIt, rng1, sApp, ePopAt, gtN, sNext, eUn, negD, listD, minD, sPar, settles, okL0, okL1, okL2, okL3, okL4] at h
  | c :: d :: r, hf, 0, _ => by
    have h1 : (Nat.beq c 59 && Nat.beq d 32) = false := by
      have := (Bool.and_eq_true_iff.mp hf).1
      simpa only [Bool.not_eq_true'] using this
    have h2 : ([c, d] == [59, 32]) = false := beq_eq_false_iff_ne.mpr fun z => by
      simp only [List.cons.injEq, and_true] at z
      rw [z.1, z.2] at h1
      exact absurd h1 (by decide)
    exact ⟨h2, h2⟩
  | c :: d :: r, hf, i + 1, h => freeB_ok (d :: r) (Bool.and_eq_true_iff.mp hf).2 i (by simpa [sSeq, sIf, andS, eTest, eOp, Ev.bind, eVar, eC, op2, look, ixD, atD, cmpI, giveAt, bl?, sAsg, eCB, eCons, eNil, looks, intD, modD, setS, settle, sSetL, eFr, frz, divD, ownL, sRet, outsOf, L2.ixN, mkFn, frA, addD, mulD, sAug, eTup, eLst, shs, lenD, absD, eIf, eAnd, eOr, eNot, eCall, callAt, argsOf, argOf, brs, nodupB, wipeE, back, sFor, eIt, rng1, sApp, ePopAt, gtN, sNext, eUn, negD, listD, minD, sPar, settles, okL0, okL1, okL2, okL3, okL4] using h)
def smallB (p : List Nat) : Bool := Nat.ble p.length 60 && (p.all fun c => Nat.blt c 1114112)
def pieceB (s : List Nat) (c : Nat) : Bool := goodB (s, c) && (freeB (cw (s, c)) && (smallB (cw (s, c)) && (Nat.ble s.length 8 && (Nat.ble (TL.numL c).length 20 && (Nat.blt c.log2 1920 && !(cw (s, c) == [45]))))))
def bentsB (s : List Nat) : Bool := counts.all fun c => pieceB s c && (bents (cw (s, c))).all fun p => badB p && (freeB p && (smallB p && !(p == [45])))
theorem bents_0 : bentsB [97] = true := by decide +kernel
theorem bents_1 : bentsB [97, 98] = true := by decide +kernel
theorem bents_2 : bentsB [98] = true := by decide +kernel
theorem bents_3 : bentsB [120] = true := by decide +kernel
theorem bents_4 : bentsB [98, 97, 103] = true := by decide +kernel
theorem bents_5 : bentsB [98, 97, 103, 115] = true := by decide +kernel
theorem bents_6 : bentsB [97, 110, 100] = true := by decide +kernel
theorem bents_7 : bentsB [110, 111] = true := by decide +kernel
theorem bents_8 : bentsB [97, 98, 99, 100, 101, 102, 103, 104] = true := by decide +kernel
theorem bents_9 : bentsB [97, 98, 99, 100, 101, 102, 103, 105] = true := by decide +kernel
theorem bents_10 : bentsB [122] = true := by decide +kernel
theorem bents_11 : bentsB [122, 122] = true := by decide +kernel
theorem bents_ok : ∀ s ∈ names, bentsB s = true := by
  intro s hs
  simp only [names, List.mem_cons, List.not_mem_nil, or_false] at hs
  rcases hs with rfl | rfl | rfl | rfl | rfl | rfl | rfl | rfl | rfl | rfl | rfl | rfl
  · exact bents_0
  · exact bents_1
  · exact bents_2
  · exact bents_3
  · exact bents_4
  · exact bents_5
  · exact bents_6
  · exact bents_7
  · exact bents_8
  · exact bents_9
  · exact bents_10
  · exact bents_11
theorem piece_at {b : Rn} (h : okR b) : pieceB b.1 b.2 = true := (Bool.and_eq_true_iff.mp (List.all_eq_true.mp (bents_ok _ h.1) _ h.2)).1
theorem bent_at {b : Rn} (h : okR b) {p : List Nat} (hp : p ∈ bents (cw b)) : badB p = true ∧ freeB p = true ∧ smallB p = true ∧ (p == [45]) = false := by
  have q := List.all_eq_true.mp (Bool.and_eq_true_iff.mp (List.all_eq_true.mp (bents_ok _ h.1) _ h.2)).2 p hp
  simp only [Bool.and_eq_true, Bool.not_eq_true'] at q
  exact ⟨q.1, q.2.1, q.2.2.1, q.2.2.2⟩
theorem good_of {b : Rn} (h : goodB b = true) : f_run_in [.sh (.str (cw b))] = .ok (.sh (rn b)) [.sh (.str (cw b))] := by
  unfold goodB at h
  split at h
  · rename_i a i t e
    rw [Bool.and_eq_true, Bool.and_eq_true, beq_iff_eq, beq_iff_eq, beq_iff_eq] at h
    obtain ⟨rfl, rfl, rfl⟩ := h
    exact e
  · cases h
theorem bad_of {p : List Nat} (h : badB p = true) : f_run_in [.sh (.str p)] = .ok (.sh .non) [.sh (.str p)] := by
  unfold badB at h
  split at h
  · rename_i t e
    rw [beq_iff_eq] at h
    subst h
    exact e
  · cases h
/-! ### split of what was joined -/
theorem pre_app {p r : List Nat} {i : Nat} (hi : i < p.length) : TL.pre [59, 32] ((p ++ ([59, 32] ++ r)).drop i) = TL.pre [59, 32] ((p ++ [59, 32]).drop i) := by
  unfold TL.pre
  rw [← List.append_assoc]
  have e : ((p ++ [59, 32] ++ r).drop i).take [59, 32].length = ((p ++ [59, 32]).drop i).take [59, 32].length := by
    rw [List.drop_append_of_le_length (by simp [sSeq, sIf, andS, eTest, eOp, Ev.bind, eVar, eC, op2, look, ixD, atD, cmpI, giveAt, bl?, sAsg, eCB, eCons, eNil, looks, intD, modD, setS, settle, sSetL, eFr, frz, divD, ownL, sRet, outsOf, L2.ixN, mkFn, frA, addD, mulD, sAug, eTup, eLst, shs, lenD, absD, eIf, eAnd, eOr, eNot, eCall, callAt, argsOf, argOf, brs, nodupB, wipeE, back, sFor, eIt, rng1, sApp, ePopAt, gtN, sNext, eUn, negD, listD, minD, sPar, settles, okL0, okL1, okL2, okL3, okL4]; omega), List.take_append_of_le_length (by simp [sSeq, sIf, andS, eTest, eOp, Ev.bind, eVar, eC, op2, look, ixD, atD, cmpI, giveAt, bl?, sAsg, eCB, eCons, eNil, looks, intD, modD, setS, settle, sSetL, eFr, frz, divD, ownL, sRet, outsOf, L2.ixN, mkFn, frA, addD, mulD, sAug, eTup, eLst, shs, lenD, absD, eIf, eAnd, eOr, eNot, eCall, callAt, argsOf, argOf, brs, nodupB, wipeE, back, sFor, eIt, rng1, sApp, ePopAt, gtN, sNext, eUn, negD, listD, minD, sPar, settles, okL0, okL1, okL2, okL3, okL4]; omega)]
  rw [e]
theorem spl_pieces : ∀ {ps : List (List Nat)}, ps ≠ [] → (∀ p ∈ ps, freeB p = true) → TL.spl [59, 32] 0 [] (TL.joinL [59, 32] ps) = ps
  | [], h, _ => absurd rfl h
  | [p], _, hp => by
    have hf := hp p (List.mem_singleton.mpr rfl)
    show TL.spl [59, 32] 0 [] p = [p]
    rw [TL.spl_last fun i hi => ?_, List.nil_append]
    exact (freeB_ok p hf i hi).2
  | p :: q :: r, _, hp => by
    have hf := hp p List.mem_cons_self
    show TL.spl [59, 32] 0 [] (p ++ ([59, 32] ++ TL.joinL [59, 32] (q :: r))) = p :: q :: r
    rw [TL.spl_part (by simp [sSeq, sIf, andS, eTest, eOp, Ev.bind, eVar, eC, op2, look, ixD, atD, cmpI, giveAt, bl?, sAsg, eCB, eCons, eNil, looks, intD, modD, setS, settle, sSetL, eFr, frz, divD, ownL, sRet, outsOf, L2.ixN, mkFn, frA, addD, mulD, sAug, eTup, eLst, shs, lenD, absD, eIf, eAnd, eOr, eNot, eCall, callAt, argsOf, argOf, brs, nodupB, wipeE, back, sFor, eIt, rng1, sApp, ePopAt, gtN, sNext, eUn, negD, listD, minD, sPar, settles, okL0, okL1, okL2, okL3, okL4]) fun i hi => ?_, List.nil_append, spl_pieces (by simp [sSeq, sIf, andS, eTest, eOp, Ev.bind, eVar, eC, op2, look, ixD, atD, cmpI, giveAt, bl?, sAsg, eCB, eCons, eNil, looks, intD, modD, setS, settle, sSetL, eFr, frz, divD, ownL, sRet, outsOf, L2.ixN, mkFn, frA, addD, mulD, sAug, eTup, eLst, shs, lenD, absD, eIf, eAnd, eOr, eNot, eCall, callAt, argsOf, argOf, brs, nodupB, wipeE, back, sFor, eIt, rng1, sApp, ePopAt, gtN, sNext, eUn, negD, listD, minD, sPar, settles, okL0, okL1, okL2, okL3, okL4]) fun z hz => hp z (List.mem_cons_of_mem _ hz)]
    rw [pre_app hi]
    exact (freeB_ok p hf i hi).1
end PM.porterhands_k02_wrong_texts_of_runs

set_option linter.all false
set_option maxRecDepth 100000
set_option maxHeartbeats 4000000
namespace PM.porterhands_k02_wrong_texts_of_runs
open PM
def rfBody : Sv := sSeq (sAsg 4 (eCall f_run_in (eCons (eVar 3) (eNil)))) (sSeq (sIf (eOr (eTest (eOp isD (eVar 4) (eC .non))) (eAnd (eTest (eOp (cmpI fun i j => decide (j < i)) (eCB lenD (eCons (eVar 1) (eNil))) (eC (.int 0)))) (eTest (eOp eqD (eOp ixD (eVar 4) (eC (.int 0))) (eOp ixD (eOp ixD (eVar 1) (eUn negD (eC (.int 1)))) (eC (.int 0))))))) (sRaise 0 (eCons (eFr (eVar 2)) (eNil))) (sNext)) (sApp 1 (eVar 4)))
abbrev rfG : Gt := gtT 2 (gtsC (gtN 2) (gtsC (gtN 3) (gtsN)))
theorem rf_good {T x2 x3 x4 : Sl} {done : List Rn} {b : Rn} {k : Nat} (hb : okR b) (hd : ∀ x ∈ done, okR x) (ha : ∀ y, done.getLast? = some y → y.1 ≠ b.1) (hl : done.length < 1000) :
    ∃ ρ1, rfG (.tup [.int (k : Int), .str (cw b)]) [T, .ow (.lst (done.map rn)), x2, x3, x4] = some ρ1 ∧ rfBody ρ1 = .nx [T, .ow (.lst ((done ++ [b]).map rn)), .sh (.int (k : Int)), .sh (.str (cw b)), .sh (rn b)] := by
  have hp := piece_at hb
  have e := good_of (Bool.and_eq_true_iff.mp hp).1
  have hk : okL done.length = true := Nat.ble_eq_true_of_le (by omega)
  have p3 := okPy_name hb.1
  refine ⟨[T, .ow (.lst (done.map rn)), .sh (.int (k : Int)), .sh (.str (cw b)), x4], by simp [sSeq, sIf, andS, eTest, eOp, Ev.bind, eVar, eC, op2, look, ixD, cmpI, giveAt, bl?, sAsg, eCB, eCons, eNil, looks, intD, modD, setS, settle, sSetL, eFr, frz, divD, ownL, sRet, outsOf, L2.ixN, mkFn, frA, addD, mulD, sAug, eTup, eLst, shs, lenD, absD, eIf, eAnd, eOr, eNot, eCall, callAt, argsOf, argOf, brs, nodupB, wipeE, back, sFor, eIt, rng1, sApp, ePopAt, gtN, sNext, eUn, negD, listD, minD, sPar, settles, okL0, at0, gtT, gtsC, gtsN, isD, isNonD, sRaise], ?_⟩
  cases hlast : done.getLast? with
  | none =>
    have hnil : done = [] := List.getLast?_eq_none_iff.mp hlast
    subst hnil
    simp [sSeq, sIf, andS, eTest, eOp, Ev.bind, eVar, eC, op2, look, ixD, cmpI, giveAt, bl?, sAsg, eCB, eCons, eNil, looks, intD, modD, setS, settle, sSetL, eFr, frz, divD, ownL, sRet, outsOf, L2.ixN, mkFn, frA, addD, mulD, sAug, eTup, eLst, shs, lenD, absD, eIf, eAnd, eOr, eNot, eCall, callAt, argsOf, argOf, brs, nodupB, wipeE, back, sFor, eIt, rng1, sApp, ePopAt, gtN, sNext, eUn, negD, listD, minD, sPar, settles, okL0, at0, gtT, gtsC, gtsN, isD, isNonD, sRaise, rfBody, e, rn]
  | some y =>
    have hy : okR y := hd y (List.mem_of_getLast? hlast)
    have p4 := okPy_name hy.1
    have hat := last_rn hlast
    have hne : done ≠ [] := fun z => by subst z; cases hlast
    have hpos : 0 < done.length := List.length_pos_iff.mpr hne
    have hq : ¬ b.1 = y.1 := fun z => ha y hlast z.symm
    simp [sSeq, sIf, andS, eTest, eOp, Ev.bind, eVar, eC, op2, look, ixD, cmpI, giveAt, bl?, sAsg, eCB, eCons, eNil, looks, intD, modD, setS, settle, sSetL, eFr, frz, divD, ownL, sRet, outsOf, L2.ixN, mkFn, frA, addD, mulD, sAug, eTup, eLst, shs, lenD, absD, eIf, eAnd, eOr, eNot, eCall, callAt, argsOf, argOf, brs, nodupB, wipeE, back, sFor, eIt, rng1, sApp, ePopAt, gtN, sNext, eUn, negD, listD, minD, sPar, settles, okL0, at0, gtT, gtsC, gtsN, isD, isNonD, sRaise, rfBody, e, rn, hat, p3, p4, eqD, deq_str, hq, hk, hpos]
theorem rf_bad {T x2 x3 x4 : Sl} {dn : List D} {p : List Nat} {k : Nat} (hb : badB p = true) : ∃ ρ1 ρ', rfG (.tup [.int (k : Int), .str p]) [T, .ow (.lst dn), x2, x3, x4] = some ρ1 ∧ rfBody ρ1 = .exc 0 [.int (k : Int)] ρ' := by
  have e := bad_of hb
  refine ⟨[T, .ow (.lst dn), .sh (.int (k : Int)), .sh (.str p), x4], [T, .ow (.lst dn), .sh (.int (k : Int)), .sh (.str p), .sh .non], by simp [sSeq, sIf, andS, eTest, eOp, Ev.bind, eVar, eC, op2, look, ixD, cmpI, giveAt, bl?, sAsg, eCB, eCons, eNil, looks, intD, modD, setS, settle, sSetL, eFr, frz, divD, ownL, sRet, outsOf, L2.ixN, mkFn, frA, addD, mulD, sAug, eTup, eLst, shs, lenD, absD, eIf, eAnd, eOr, eNot, eCall, callAt, argsOf, argOf, brs, nodupB, wipeE, back, sFor, eIt, rng1, sApp, ePopAt, gtN, sNext, eUn, negD, listD, minD, sPar, settles, okL0, at0, gtT, gtsC, gtsN, isD, isNonD, sRaise], ?_⟩
  simp [sSeq, sIf, andS, eTest, eOp, Ev.bind, eVar, eC, op2, look, ixD, cmpI, giveAt, bl?, sAsg, eCB, eCons, eNil, looks, intD, modD, setS, settle, sSetL, eFr, frz, divD, ownL, sRet, outsOf, L2.ixN, mkFn, frA, addD, mulD, sAug, eTup, eLst, shs, lenD, absD, eIf, eAnd, eOr, eNot, eCall, callAt, argsOf, argOf, brs, nodupB, wipeE, back, sFor, eIt, rng1, sApp, ePopAt, gtN, sNext, eUn, negD, listD, minD, sPar, settles, okL0, at0, gtT, gtsC, gtsN, isD, isNonD, sRaise, rfBody, e]
theorem adj_mid : ∀ {done : List Rn} {b y : Rn} {l : List Rn}, adj (done ++ b :: l) → done.getLast? = some y → y.1 ≠ b.1
  | [], _, _, _, _, h => by cases h
  | [a], b, y, l, h, e => by cases e; exact h.1
  | a :: c :: r, b, y, l, h, e => adj_mid (done := c :: r) (b := b) (l := l) h.2 (by rw [List.getLast?_cons_cons] at e; exact e)
theorem loop_good {T : Sl} : ∀ (l done : List Rn) (k : Nat) (rest : List D) (x2 x3 x4 : Sl), (∀ b ∈ l, okR b) → (∀ b ∈ done, okR b) → adj (done ++ l) → done.length + l.length < 1000 →
    ∃ x2' x3' x4', forL rfG rfBody (enumF k (l.map fun b => .str (cw b)) ++ rest) [T, .ow (.lst (done.map rn)), x2, x3, x4] = forL rfG rfBody rest [T, .ow (.lst ((done ++ l).map rn)), x2', x3', x4']
  | [], done, k, rest, x2, x3, x4, _, _, _, _ => ⟨x2, x3, x4, by simp [sSeq, sIf, andS, eTest, eOp, Ev.bind, eVar, eC, op2, look, ixD, cmpI, giveAt, bl?, sAsg, eCB, eCons, eNil, looks, intD, modD, setS, settle, sSetL, eFr, frz, divD, ownL, sRet, outsOf, L2.ixN, mkFn, frA, addD, mulD, sAug, eTup, eLst, shs, lenD, absD, eIf, eAnd, eOr, eNot, eCall, callAt, argsOf, argOf, brs, nodupB, wipeE, back, sFor, eIt, rng1, sApp, ePopAt, gtN, sNext, eUn, negD, listD, minD, sPar, settles, okL0, at0, gtT, gtsC, gtsN, isD, isNonD, sRaise, enumF]⟩
  | b :: l, done, k, rest, x2, x3, x4, h1, h2, h3, h4 => by
    rw [List.length_cons] at h4
    obtain ⟨ρ1, e1, e2⟩ := rf_good (T := T) (x2 := x2) (x3 := x3) (x4 := x4) (k := k) (h1 b List.mem_cons_self) h2 (fun y hy => adj_mid h3 hy) (by omega)
    obtain ⟨y2, y3, y4, e3⟩ := loop_good (T := T) l (done ++ [b]) (k + 1) rest (.sh (.int (k : Int))) (.sh (.str (cw b))) (.sh (rn b)) (fun x hx => h1 x (List.mem_cons_of_mem _ hx)) (fun x hx => by
      rcases List.mem_append.mp hx with z | z
      · exact h2 x z
      · rw [List.mem_singleton.mp z]; exact h1 b List.mem_cons_self) (by rw [List.append_assoc]; exact h3) (by rw [List.length_append]; simp [sSeq, sIf, andS, eTest, eOp, Ev.bind, eVar, eC, op2, look, ixD, cmpI, giveAt, bl?, sAsg, eCB, eCons, eNil, looks, intD, modD, setS, settle, sSetL, eFr, frz, divD, ownL, sRet, outsOf, L2.ixN, mkFn, frA, addD, mulD, sAug, eTup, eLst, shs, lenD, absD, eIf, eAnd, eOr, eNot, eCall, callAt, argsOf, argOf, brs, nodupB, wipeE, back, sFor, eIt, rng1, sApp, ePopAt, gtN, sNext, eUn, negD, listD, minD, sPar, settles, okL0, at0, gtT, gtsC, gtsN, isD, isNonD, sRaise]; omega)
    refine ⟨y2, y3, y4, ?_⟩
    rw [show done ++ b :: l = done ++ [b] ++ l by simp [sSeq, sIf, andS, eTest, eOp, Ev.bind, eVar, eC, op2, look, ixD, cmpI, giveAt, bl?, sAsg, eCB, eCons, eNil, looks, intD, modD, setS, settle, sSetL, eFr, frz, divD, ownL, sRet, outsOf, L2.ixN, mkFn, frA, addD, mulD, sAug, eTup, eLst, shs, lenD, absD, eIf, eAnd, eOr, eNot, eCall, callAt, argsOf, argOf, brs, nodupB, wipeE, back, sFor, eIt, rng1, sApp, ePopAt, gtN, sNext, eUn, negD, listD, minD, sPar, settles, okL0, at0, gtT, gtsC, gtsN, isD, isNonD, sRaise], ← e3]
    show forL rfG rfBody (.tup [.int (k : Int), .str (cw b)] :: (enumF (k + 1) (l.map fun b => .str (cw b)) ++ rest)) _ = _
    rw [forL, e1]
    simp only [e2]
/-! ### the text -/
theorem join_len : ∀ {ps : List (List Nat)}, (∀ p ∈ ps, p.length ≤ 60) → (TL.joinL [59, 32] ps).length ≤ 62 * ps.length
  | [], _ => Nat.zero_le _
  | [p], h => by
    have := h p List.mem_cons_self
    show p.length ≤ _
    simp only [List.length_cons, List.length_nil]
    omega
  | p :: q :: r, h => by
    have h1 := h p List.mem_cons_self
    have h2 := join_len (ps := q :: r) fun z hz => h z (List.mem_cons_of_mem _ hz)
    show (p ++ ([59, 32] ++ TL.joinL [59, 32] (q :: r))).length ≤ _
    rw [List.length_append, List.length_append]
    simp only [List.length_cons, List.length_nil] at h2 ⊢
    omega
theorem join_all : ∀ {ps : List (List Nat)}, (∀ p ∈ ps, (p.all fun c => Nat.blt c 1114112) = true) → ((TL.joinL [59, 32] ps).all fun c => Nat.blt c 1114112) = true
  | [], _ => rfl
  | [p], h => h p List.mem_cons_self
  | p :: q :: r, h => by
    show ((p ++ ([59, 32] ++ TL.joinL [59, 32] (q :: r))).all fun c => Nat.blt c 1114112) = true
    rw [List.all_append, List.all_append, h p List.mem_cons_self, join_all (ps := q :: r) fun z hz => h z (List.mem_cons_of_mem _ hz)]
    rfl
theorem join_ne : ∀ {ps : List (List Nat)}, ps ≠ [] → (∀ p ∈ ps, (p == [45]) = false) → (TL.joinL [59, 32] ps == [45]) = false
  | [], h, _ => absurd rfl h
  | [p], _, h => h p List.mem_cons_self
  | p :: q :: r, _, h => by
    refine beq_eq_false_iff_ne.mpr fun z => ?_
    have z : p ++ ([59, 32] ++ TL.joinL [59, 32] (q :: r)) = [45] := z
    have := congrArg List.length z
    simp [sSeq, sIf, andS, eTest, eOp, Ev.bind, eVar, eC, op2, look, ixD, cmpI, giveAt, bl?, sAsg, eCB, eCons, eNil, looks, intD, modD, setS, settle, sSetL, eFr, frz, divD, ownL, sRet, outsOf, L2.ixN, mkFn, frA, addD, mulD, sAug, eTup, eLst, shs, lenD, absD, eIf, eAnd, eOr, eNot, eCall, callAt, argsOf, argOf, brs, nodupB, wipeE, back, sFor, eIt, rng1, sApp, ePopAt, gtN, sNext, eUn, negD, listD, minD, sPar, settles, okL0, at0, gtT, gtsC, gtsN, isD, isNonD, sRaise] at this
    omega
/-- what a text's pieces must be -/
structure Ps (ps : List (List Nat)) : Prop where
  ne : ps ≠ []
  fr : ∀ p ∈ ps, freeB p = true
  sm : ∀ p ∈ ps, smallB p = true
  no : ∀ p ∈ ps, (p == [45]) = false
  ln : ps.length ≤ 6
theorem Ps.split {ps : List (List Nat)} (h : Ps ps) : splitL (TL.joinL [59, 32] ps) [59, 32] = some (ps.map D.str) := by
  have h1 := join_len (ps := ps) fun p hp => Nat.le_of_ble_eq_true (Bool.and_eq_true_iff.mp (h.sm p hp)).1
  have h2 := h.ln
  unfold splitL
  rw [spl_pieces h.ne h.fr, if_pos]
  rw [Bool.and_eq_true]
  exact ⟨Nat.ble_eq_true_of_le (by omega), rfl⟩
theorem Ps.py {ps : List (List Nat)} (h : Ps ps) : okPy (.str (TL.joinL [59, 32] ps)) = true := okPy_str (join_all fun p hp => (Bool.and_eq_true_iff.mp (h.sm p hp)).2)
theorem runs_on {ps : List (List Nat)} (h : Ps ps) {r : Fl} (e : forL rfG rfBody (enumF 0 (ps.map D.str)) [.sh (.str (TL.joinL [59, 32] ps)), .ow (.lst []), .no, .no, .no] = r) :
    (∀ dn x2 x3 x4, r = .nx [.sh (.str (TL.joinL [59, 32] ps)), .ow (.lst dn), x2, x3, x4] → ∃ outs, f_runs_from [.sh (.str (TL.joinL [59, 32] ps))] = .ok (.sh (.tup dn)) outs) ∧
    (∀ k ρ, r = .exc 0 [.int k] ρ → ∃ outs, f_runs_from [.sh (.str (TL.joinL [59, 32] ps))] = .exc 0 [.int k] outs) := by
  have h1 := h.split
  have h2 := h.py
  have h3 := join_ne h.ne h.no
  have p1 : okPy (.str [45]) = true := rfl
  unfold f_runs_from
  simp only [mkFn, List.length_cons, List.length_nil, if_true, List.replicate, b_runs_from, Nat.zero_add]
  rw [show (sSeq (sAsg 4 (eCall f_run_in (eCons (eVar 3) (eNil)))) (sSeq (sIf (eOr (eTest (eOp isD (eVar 4) (eC .non))) (eAnd (eTest (eOp (cmpI fun i j => decide (j < i)) (eCB lenD (eCons (eVar 1) (eNil))) (eC (.int 0)))) (eTest (eOp eqD (eOp ixD (eVar 4) (eC (.int 0))) (eOp ixD (eOp ixD (eVar 1) (eUn negD (eC (.int 1)))) (eC (.int 0))))))) (sRaise 0 (eCons (eFr (eVar 2)) (eNil))) (sNext)) (sApp 1 (eVar 4)))) = rfBody from rfl]
  generalize TL.joinL [59, 32] ps = txt at *
  generalize rfBody = bd at e ⊢
  unfold rfG at e
  generalize hg : (gtT 2 (gtsC (gtN 2) (gtsC (gtN 3) (gtsN)))) = gg at e ⊢
  constructor
  · intro dn x2 x3 x4 hr
    rw [hr] at e
    simp [sSeq, sIf, andS, eTest, eOp, Ev.bind, eVar, eC, op2, look, ixD, cmpI, giveAt, bl?, sAsg, eCB, eCons, eNil, looks, intD, modD, setS, settle, sSetL, eFr, frz, divD, ownL, sRet, outsOf, L2.ixN, mkFn, frA, addD, mulD, sAug, eTup, eLst, shs, lenD, absD, eIf, eAnd, eOr, eNot, eCall, callAt, argsOf, argOf, brs, nodupB, wipeE, back, sFor, eIt, rng1, sApp, ePopAt, gtN, sNext, eUn, negD, listD, minD, sPar, settles, okL0, at0, gtT, gtsC, gtsN, isD, isNonD, sRaise, neD, c_NOTHING, c_BETWEEN, h1, h2, h3, p1, deq_str, eSplit, enumD, e, tupleD]
  · intro k ρ hr
    rw [hr] at e
    simp [sSeq, sIf, andS, eTest, eOp, Ev.bind, eVar, eC, op2, look, ixD, cmpI, giveAt, bl?, sAsg, eCB, eCons, eNil, looks, intD, modD, setS, settle, sSetL, eFr, frz, divD, ownL, sRet, outsOf, L2.ixN, mkFn, frA, addD, mulD, sAug, eTup, eLst, shs, lenD, absD, eIf, eAnd, eOr, eNot, eCall, callAt, argsOf, argOf, brs, nodupB, wipeE, back, sFor, eIt, rng1, sApp, ePopAt, gtN, sNext, eUn, negD, listD, minD, sPar, settles, okL0, at0, gtT, gtsC, gtsN, isD, isNonD, sRaise, neD, c_NOTHING, c_BETWEEN, h1, h2, h3, p1, deq_str, eSplit, enumD, e, tupleD]
end PM.porterhands_k02_wrong_texts_of_runs

set_option linter.all false
set_option maxRecDepth 100000
set_option maxHeartbeats 4000000
namespace PM.porterhands_k02_wrong_texts_of_runs
open PM
theorem enumF_app : ∀ (a b : List D) (k : Nat), enumF k (a ++ b) = enumF k a ++ enumF (k + a.length) b
  | [], b, k => by simp [sSeq, sIf, andS, eTest, eOp, Ev.bind, eVar, eC, op2, look, ixD, cmpI, giveAt, bl?, sAsg, eCB, eCons, eNil, looks, intD, modD, setS, settle, sSetL, eFr, frz, divD, ownL, sRet, outsOf, L2.ixN, mkFn, frA, addD, mulD, sAug, eTup, eLst, shs, lenD, absD, eIf, eAnd, eOr, eNot, eCall, callAt, argsOf, argOf, brs, nodupB, wipeE, back, sFor, eIt, rng1, sApp, ePopAt, gtN, sNext, eUn, negD, listD, minD, sPar, settles, okL0, okL1, okL2, okL3, okL4, at0, gtT, gtsC, gtsN, isD, isNonD, sRaise, enumF]
  | x :: a, b, k => by
    show _ :: enumF (k + 1) (a ++ b) = _ :: (enumF (k + 1) a ++ _)
    rw [enumF_app a b (k + 1), List.length_cons, show k + 1 + a.length = k + (a.length + 1) by omega]
theorem ps_cw {l : List Rn} (h0 : l ≠ []) (h : ∀ b ∈ l, okR b) (hl : l.length ≤ 6) : Ps (l.map cw) := by
  have q : ∀ p ∈ l.map cw, freeB p = true ∧ smallB p = true ∧ (p == [45]) = false := fun p hp => by
    obtain ⟨b, hb, rfl⟩ := List.mem_map.mp hp
    have z := piece_at (h b hb)
    simp only [pieceB, Bool.and_eq_true, Bool.not_eq_true'] at z
    exact ⟨z.2.1, z.2.2.1, z.2.2.2.2.2.2⟩
  exact ⟨by simpa [sSeq, sIf, andS, eTest, eOp, Ev.bind, eVar, eC, op2, look, ixD, cmpI, giveAt, bl?, sAsg, eCB, eCons, eNil, looks, intD, modD, setS, settle, sSetL, eFr, frz, divD, ownL, sRet, outsOf, L2.ixN, mkFn, frA, addD, mulD, sAug, eTup, eLst, shs, lenD, absD, eIf, eAnd, eOr, eNot, eCall, callAt, argsOf, argOf, brs, nodupB, wipeE, back, sFor, eIt, rng1, sApp, ePopAt, gtN, sNext, eUn, negD, listD, minD, sPar, settles, okL0, okL1, okL2, okL3, okL4, at0, gtT, gtsC, gtsN, isD, isNonD, sRaise] using h0, fun p hp => (q p hp).1, fun p hp => (q p hp).2.1, fun p hp => (q p hp).2.2, by rw [List.length_map]; exact hl⟩
theorem map_cw (l : List Rn) : (l.map cw).map D.str = l.map fun b => .str (cw b) := by rw [List.map_map]; rfl
theorem runs_good {l : List Rn} (h0 : l ≠ []) (h : ∀ b ∈ l, okR b) (ha : adj l) (hl : l.length ≤ 6) : ∃ outs, f_runs_from [.sh (.str (TL.joinL [59, 32] (l.map cw)))] = .ok (.sh (.tup (l.map rn))) outs := by
  obtain ⟨x2, x3, x4, e⟩ := loop_good (T := .sh (.str (TL.joinL [59, 32] (l.map cw)))) l [] 0 [] .no .no .no h (by simp [sSeq, sIf, andS, eTest, eOp, Ev.bind, eVar, eC, op2, look, ixD, cmpI, giveAt, bl?, sAsg, eCB, eCons, eNil, looks, intD, modD, setS, settle, sSetL, eFr, frz, divD, ownL, sRet, outsOf, L2.ixN, mkFn, frA, addD, mulD, sAug, eTup, eLst, shs, lenD, absD, eIf, eAnd, eOr, eNot, eCall, callAt, argsOf, argOf, brs, nodupB, wipeE, back, sFor, eIt, rng1, sApp, ePopAt, gtN, sNext, eUn, negD, listD, minD, sPar, settles, okL0, okL1, okL2, okL3, okL4, at0, gtT, gtsC, gtsN, isD, isNonD, sRaise]) ha (by simp [sSeq, sIf, andS, eTest, eOp, Ev.bind, eVar, eC, op2, look, ixD, cmpI, giveAt, bl?, sAsg, eCB, eCons, eNil, looks, intD, modD, setS, settle, sSetL, eFr, frz, divD, ownL, sRet, outsOf, L2.ixN, mkFn, frA, addD, mulD, sAug, eTup, eLst, shs, lenD, absD, eIf, eAnd, eOr, eNot, eCall, callAt, argsOf, argOf, brs, nodupB, wipeE, back, sFor, eIt, rng1, sApp, ePopAt, gtN, sNext, eUn, negD, listD, minD, sPar, settles, okL0, okL1, okL2, okL3, okL4, at0, gtT, gtsC, gtsN, isD, isNonD, sRaise]; omega)
  rw [List.append_nil, List.nil_append] at e
  exact (runs_on (ps_cw h0 h hl) (r := .nx [.sh (.str (TL.joinL [59, 32] (l.map cw))), .ow (.lst (l.map rn)), x2, x3, x4]) (by rw [map_cw]; exact e)).1 _ _ _ _ rfl
theorem runs_bent {l1 l2 : List Rn} {p : List Nat} (h1 : ∀ b ∈ l1, okR b) (h2 : ∀ b ∈ l2, okR b) (ha : adj l1) (hl : l1.length + l2.length + 1 ≤ 6) (hp : badB p = true) (hf : freeB p = true) (hs : smallB p = true) (hn : (p == [45]) = false) :
    ∃ outs, f_runs_from [.sh (.str (TL.joinL [59, 32] (l1.map cw ++ p :: l2.map cw)))] = .exc 0 [.int (l1.length : Int)] outs := by
  have P : Ps (l1.map cw ++ p :: l2.map cw) := by
    have q : ∀ x ∈ l1.map cw ++ p :: l2.map cw, freeB x = true ∧ smallB x = true ∧ (x == [45]) = false := fun x hx => by
      have one : ∀ l : List Rn, (∀ b ∈ l, okR b) → x ∈ l.map cw → freeB x = true ∧ smallB x = true ∧ (x == [45]) = false := fun l hl hx => by
        obtain ⟨b, hb, rfl⟩ := List.mem_map.mp hx
        have z := piece_at (hl b hb)
        simp only [pieceB, Bool.and_eq_true, Bool.not_eq_true'] at z
        exact ⟨z.2.1, z.2.2.1, z.2.2.2.2.2.2⟩
      rcases List.mem_append.mp hx with z | z
      · exact one l1 h1 z
      · rcases List.mem_cons.mp z with z | z
        · rw [z]; exact ⟨hf, hs, hn⟩
        · exact one l2 h2 z
    exact ⟨by simp [sSeq, sIf, andS, eTest, eOp, Ev.bind, eVar, eC, op2, look, ixD, cmpI, giveAt, bl?, sAsg, eCB, eCons, eNil, looks, intD, modD, setS, settle, sSetL, eFr, frz, divD, ownL, sRet, outsOf, L2.ixN, mkFn, frA, addD, mulD, sAug, eTup, eLst, shs, lenD, absD, eIf, eAnd, eOr, eNot, eCall, callAt, argsOf, argOf, brs, nodupB, wipeE, back, sFor, eIt, rng1, sApp, ePopAt, gtN, sNext, eUn, negD, listD, minD, sPar, settles, okL0, okL1, okL2, okL3, okL4, at0, gtT, gtsC, gtsN, isD, isNonD, sRaise], fun p hp => (q p hp).1, fun p hp => (q p hp).2.1, fun p hp => (q p hp).2.2, by simp [sSeq, sIf, andS, eTest, eOp, Ev.bind, eVar, eC, op2, look, ixD, cmpI, giveAt, bl?, sAsg, eCB, eCons, eNil, looks, intD, modD, setS, settle, sSetL, eFr, frz, divD, ownL, sRet, outsOf, L2.ixN, mkFn, frA, addD, mulD, sAug, eTup, eLst, shs, lenD, absD, eIf, eAnd, eOr, eNot, eCall, callAt, argsOf, argOf, brs, nodupB, wipeE, back, sFor, eIt, rng1, sApp, ePopAt, gtN, sNext, eUn, negD, listD, minD, sPar, settles, okL0, okL1, okL2, okL3, okL4, at0, gtT, gtsC, gtsN, isD, isNonD, sRaise]; omega⟩
  generalize hT : TL.joinL [59, 32] (l1.map cw ++ p :: l2.map cw) = T at *
  have k := runs_on P (r := forL rfG rfBody (enumF 0 ((l1.map cw ++ p :: l2.map cw).map D.str)) [.sh (.str (TL.joinL [59, 32] (l1.map cw ++ p :: l2.map cw))), .ow (.lst []), .no, .no, .no]) rfl
  rw [hT] at k
  obtain ⟨x2, x3, x4, e⟩ := loop_good (T := .sh (.str T)) l1 [] 0 (enumF l1.length (.str p :: (l2.map cw).map D.str)) .no .no .no h1 (by simp [sSeq, sIf, andS, eTest, eOp, Ev.bind, eVar, eC, op2, look, ixD, cmpI, giveAt, bl?, sAsg, eCB, eCons, eNil, looks, intD, modD, setS, settle, sSetL, eFr, frz, divD, ownL, sRet, outsOf, L2.ixN, mkFn, frA, addD, mulD, sAug, eTup, eLst, shs, lenD, absD, eIf, eAnd, eOr, eNot, eCall, callAt, argsOf, argOf, brs, nodupB, wipeE, back, sFor, eIt, rng1, sApp, ePopAt, gtN, sNext, eUn, negD, listD, minD, sPar, settles, okL0, okL1, okL2, okL3, okL4, at0, gtT, gtsC, gtsN, isD, isNonD, sRaise]) ha (by simp [sSeq, sIf, andS, eTest, eOp, Ev.bind, eVar, eC, op2, look, ixD, cmpI, giveAt, bl?, sAsg, eCB, eCons, eNil, looks, intD, modD, setS, settle, sSetL, eFr, frz, divD, ownL, sRet, outsOf, L2.ixN, mkFn, frA, addD, mulD, sAug, eTup, eLst, shs, lenD, absD, eIf, eAnd, eOr, eNot, eCall, callAt, argsOf, argOf, brs, nodupB, wipeE, back, sFor, eIt, rng1, sApp, ePopAt, gtN, sNext, eUn, negD, listD, minD, sPar, settles, okL0, okL1, okL2, okL3, okL4, at0, gtT, gtsC, gtsN, isD, isNonD, sRaise]; omega)
  rw [List.nil_append] at e
  obtain ⟨ρ1, ρ', e1, e2⟩ := rf_bad (T := .sh (.str T)) (x2 := x2) (x3 := x3) (x4 := x4) (dn := l1.map rn) (k := l1.length) hp
  refine k.2 _ ρ' ?_
  rw [List.map_append, List.map_cons, map_cw, enumF_app, List.length_map, Nat.zero_add]
  refine e.trans ?_
  show forL rfG rfBody (.tup [.int (l1.length : Int), .str p] :: enumF (l1.length + 1) ((l2.map cw).map D.str)) _ = _
  rw [forL, e1]
  simp only [e2]
theorem back1 (ρ : Env) (a : D) : ∀ outs, back ρ [.sh a] outs = ρ
  | [] => rfl
  | [_] => rfl
  | _ :: _ :: _ => rfl
theorem heard_ok {t : List Nat} {d : D} {outs : List Sl} (h : f_runs_from [.sh (.str t)] = .ok (.sh d) outs) : ∃ outs', f__law_heard [.sh (.str t)] = .ok (.sh d) outs' := by
  unfold f__law_heard
  simp only [mkFn, List.length_cons, List.length_nil, if_true, List.replicate, b__law_heard, Nat.zero_add]
  simp [sSeq, sIf, andS, eTest, eOp, Ev.bind, eVar, eC, op2, look, ixD, cmpI, giveAt, bl?, sAsg, eCB, eCons, eNil, looks, intD, modD, setS, settle, sSetL, eFr, frz, divD, ownL, sRet, outsOf, L2.ixN, mkFn, frA, addD, mulD, sAug, eTup, eLst, shs, lenD, absD, eIf, eAnd, eOr, eNot, eCall, callAt, argsOf, argOf, brs, nodupB, wipeE, back, sFor, eIt, rng1, sApp, ePopAt, gtN, sNext, eUn, negD, listD, minD, sPar, settles, okL0, okL1, okL2, okL3, okL4, at0, gtT, gtsC, gtsN, isD, isNonD, sRaise, sAsgG, sTry, h, back1, A__law_heard]
theorem heard_exc {t : List Nat} {k : Int} {outs : List Sl} (h : f_runs_from [.sh (.str t)] = .exc 0 [.int k] outs) : ∃ outs', f__law_heard [.sh (.str t)] = .ok (.ow (.lst [.int k])) outs' := by
  unfold f__law_heard
  simp only [mkFn, List.length_cons, List.length_nil, if_true, List.replicate, b__law_heard, Nat.zero_add]
  simp [sSeq, sIf, andS, eTest, eOp, Ev.bind, eVar, eC, op2, look, ixD, cmpI, giveAt, bl?, sAsg, eCB, eCons, eNil, looks, intD, modD, setS, settle, sSetL, eFr, frz, divD, ownL, sRet, outsOf, L2.ixN, mkFn, frA, addD, mulD, sAug, eTup, eLst, shs, lenD, absD, eIf, eAnd, eOr, eNot, eCall, callAt, argsOf, argOf, brs, nodupB, wipeE, back, sFor, eIt, rng1, sApp, ePopAt, gtN, sNext, eUn, negD, listD, minD, sPar, settles, okL0, okL1, okL2, okL3, okL4, at0, gtT, gtsC, gtsN, isD, isNonD, sRaise, sAsgG, sTry, h, back1, A__law_heard, cm_BadText, eXf, fi_piece]
end PM.porterhands_k02_wrong_texts_of_runs

set_option linter.all false
set_option maxRecDepth 100000
set_option maxHeartbeats 4000000
namespace PM.porterhands_k02_wrong_texts_of_runs
open PM
theorem at1 {a b : D} {l : List D} : atD (a :: b :: l) (1 : Int) = some b := by simp [sSeq, sIf, andS, eTest, eOp, Ev.bind, eVar, eC, op2, look, ixD, cmpI, giveAt, bl?, sAsg, eCB, eCons, eNil, looks, intD, modD, setS, settle, sSetL, eFr, frz, divD, ownL, sRet, outsOf, L2.ixN, mkFn, frA, addD, mulD, sAug, eTup, eLst, shs, lenD, absD, eIf, eAnd, eOr, eNot, eCall, callAt, argsOf, argOf, brs, nodupB, wipeE, back, sFor, eIt, rng1, sApp, ePopAt, gtN, sNext, eUn, negD, listD, minD, sPar, settles, okL0, okL1, okL2, okL3, okL4, at0, gtT, gtsC, gtsN, isD, isNonD, sRaise, atD]; omega
theorem strsD_map : ∀ ps : List (List Nat), strsD (ps.map D.str) = some ps
  | [] => rfl
  | p :: ps => by
    show (strsD (ps.map D.str)).map (fun t => p :: t) = _
    rw [strsD_map ps]
    rfl
def wordE : Ev Sl := eOp addD (eOp addD (eOp ixD (eVar 1) (eC (.int 0))) (eC (.str [32]))) (eCB strD (eCons (eOp ixD (eVar 1) (eC (.int 1))) (eNil)))
theorem words_loop {l : List Rn} (h : ∀ b ∈ l, okR b) (hl : l.length ≤ 6) : lcT [1] (gtN 1) eYes wordE (l.map rn) [] [.sh (.tup (l.map rn)), .no] = .ok ((l.map cw).map D.str) [.sh (.tup (l.map rn)), .no] := by
  have key := lcT_inv (own := [1]) (g := gtN 1) (m := wordE) (fun i acc ρ => acc = ((l.take i).map cw).map D.str ∧ ρ = [.sh (.tup (l.map rn)), .no]) (l.map rn) 0 [] [.sh (.tup (l.map rn)), .no] ⟨by simp [sSeq, sIf, andS, eTest, eOp, Ev.bind, eVar, eC, op2, look, ixD, cmpI, giveAt, bl?, sAsg, eCB, eCons, eNil, looks, intD, modD, setS, settle, sSetL, eFr, frz, divD, ownL, sRet, outsOf, L2.ixN, mkFn, frA, addD, mulD, sAug, eTup, eLst, shs, lenD, absD, eIf, eAnd, eOr, eNot, eCall, callAt, argsOf, argOf, brs, nodupB, wipeE, back, sFor, eIt, rng1, sApp, ePopAt, gtN, sNext, eUn, negD, listD, minD, sPar, settles, okL0, okL1, okL2, okL3, okL4, at0, gtT, gtsC, gtsN, isD, isNonD, sRaise], rfl⟩ (by simp [sSeq, sIf, andS, eTest, eOp, Ev.bind, eVar, eC, op2, look, ixD, cmpI, giveAt, bl?, sAsg, eCB, eCons, eNil, looks, intD, modD, setS, settle, sSetL, eFr, frz, divD, ownL, sRet, outsOf, L2.ixN, mkFn, frA, addD, mulD, sAug, eTup, eLst, shs, lenD, absD, eIf, eAnd, eOr, eNot, eCall, callAt, argsOf, argOf, brs, nodupB, wipeE, back, sFor, eIt, rng1, sApp, ePopAt, gtN, sNext, eUn, negD, listD, minD, sPar, settles, okL0, okL1, okL2, okL3, okL4, at0, gtT, gtsC, gtsN, isD, isNonD, sRaise]; omega) ?_
  · obtain ⟨acc, ρ, e, q1, q2⟩ := key
    rw [e, q1, q2, List.length_map, Nat.zero_add, List.take_length]
  · intro i d acc ρ hi hP
    obtain ⟨rfl, rfl⟩ := hP
    rw [List.getElem?_map] at hi
    cases hb : l[i]? with
    | none => rw [hb] at hi; cases hi
    | some b =>
      rw [hb] at hi
      cases hi
      have z := piece_at (h b (List.mem_of_getElem? hb))
      simp only [pieceB, Bool.and_eq_true, Bool.not_eq_true'] at z
      have z1 := Nat.le_of_ble_eq_true z.2.2.2.1
      have z2 := Nat.le_of_ble_eq_true z.2.2.2.2.1
      have z3 := z.2.2.2.2.2.1
      have k1 : okL (b.1.length + 1) = true := Nat.ble_eq_true_of_le (by omega)
      have k2 : okL (b.1.length + (1 + (TL.numL b.2).length)) = true := Nat.ble_eq_true_of_le (by omega)
      have k3 : okL (b.1.length + 1 + (TL.numL b.2).length) = true := Nat.ble_eq_true_of_le (by omega)
      have z4 : b.2.log2 < 1920 := by simpa [sSeq, sIf, andS, eTest, eOp, Ev.bind, eVar, eC, op2, look, ixD, cmpI, giveAt, bl?, sAsg, eCB, eCons, eNil, looks, intD, modD, setS, settle, sSetL, eFr, frz, divD, ownL, sRet, outsOf, L2.ixN, mkFn, frA, addD, mulD, sAug, eTup, eLst, shs, lenD, absD, eIf, eAnd, eOr, eNot, eCall, callAt, argsOf, argOf, brs, nodupB, wipeE, back, sFor, eIt, rng1, sApp, ePopAt, gtN, sNext, eUn, negD, listD, minD, sPar, settles, okL0, okL1, okL2, okL3, okL4, at0, gtT, gtsC, gtsN, isD, isNonD, sRaise] using z3
      refine ⟨[.sh (.tup (l.map rn)), .sh (rn b)], by simp [sSeq, sIf, andS, eTest, eOp, Ev.bind, eVar, eC, op2, look, ixD, cmpI, giveAt, bl?, sAsg, eCB, eCons, eNil, looks, intD, modD, setS, settle, sSetL, eFr, frz, divD, ownL, sRet, outsOf, L2.ixN, mkFn, frA, addD, mulD, sAug, eTup, eLst, shs, lenD, absD, eIf, eAnd, eOr, eNot, eCall, callAt, argsOf, argOf, brs, nodupB, wipeE, back, sFor, eIt, rng1, sApp, ePopAt, gtN, sNext, eUn, negD, listD, minD, sPar, settles, okL0, okL1, okL2, okL3, okL4, at0, gtT, gtsC, gtsN, isD, isNonD, sRaise], .str (cw b), [.sh (.tup (l.map rn)), .sh (rn b)], ?_, ?_, rfl⟩
      · simp [sSeq, sIf, andS, eTest, eOp, Ev.bind, eVar, eC, op2, look, ixD, cmpI, giveAt, bl?, sAsg, eCB, eCons, eNil, looks, intD, modD, setS, settle, sSetL, eFr, frz, divD, ownL, sRet, outsOf, L2.ixN, mkFn, frA, addD, mulD, sAug, eTup, eLst, shs, lenD, absD, eIf, eAnd, eOr, eNot, eCall, callAt, argsOf, argOf, brs, nodupB, wipeE, back, sFor, eIt, rng1, sApp, ePopAt, gtN, sNext, eUn, negD, listD, minD, sPar, settles, okL0, okL1, okL2, okL3, okL4, at0, gtT, gtsC, gtsN, isD, isNonD, sRaise, wordE, rn, at1, strD, k1, k2, k3, z4, cw]
      · rw [Nat.zero_add, List.take_add_one, hb]
        simp [sSeq, sIf, andS, eTest, eOp, Ev.bind, eVar, eC, op2, look, ixD, cmpI, giveAt, bl?, sAsg, eCB, eCons, eNil, looks, intD, modD, setS, settle, sSetL, eFr, frz, divD, ownL, sRet, outsOf, L2.ixN, mkFn, frA, addD, mulD, sAug, eTup, eLst, shs, lenD, absD, eIf, eAnd, eOr, eNot, eCall, callAt, argsOf, argOf, brs, nodupB, wipeE, back, sFor, eIt, rng1, sApp, ePopAt, gtN, sNext, eUn, negD, listD, minD, sPar, settles, okL0, okL1, okL2, okL3, okL4, at0, gtT, gtsC, gtsN, isD, isNonD, sRaise]
theorem words' {l : List Rn} (h0 : l ≠ []) (h : ∀ b ∈ l, okR b) (hl : l.length ≤ 6) : ∃ outs, f__law_bit_words [.sh (.tup (l.map rn))] = .ok (.sh (.str (TL.joinL [59, 32] (l.map cw)))) outs := by
  have e := words_loop h hl
  have P := ps_cw h0 h hl
  have p1 := okPy_tup h
  have p2 : okPy (.tup []) = true := rfl
  have hd : deq (.tup (l.map rn)) (.tup []) = false := by
    cases l with
    | nil => exact absurd rfl h0
    | cons b l => rfl
  have hs := strsD_map (l.map cw)
  have hk : okL (((l.map cw).map List.length).sum + (l.map cw).length * 2) = true := by
    refine Nat.ble_eq_true_of_le ?_
    have q : ∀ ps : List (List Nat), (∀ p ∈ ps, p.length ≤ 60) → (ps.map List.length).sum ≤ 60 * ps.length := by
      intro ps
      induction ps with
      | nil => intro _; simp [sSeq, sIf, andS, eTest, eOp, Ev.bind, eVar, eC, op2, look, ixD, cmpI, giveAt, bl?, sAsg, eCB, eCons, eNil, looks, intD, modD, setS, settle, sSetL, eFr, frz, divD, ownL, sRet, outsOf, L2.ixN, mkFn, frA, addD, mulD, sAug, eTup, eLst, shs, lenD, absD, eIf, eAnd, eOr, eNot, eCall, callAt, argsOf, argOf, brs, nodupB, wipeE, back, sFor, eIt, rng1, sApp, ePopAt, gtN, sNext, eUn, negD, listD, minD, sPar, settles, okL0, okL1, okL2, okL3, okL4, at0, gtT, gtsC, gtsN, isD, isNonD, sRaise]
      | cons p ps ih =>
        intro hp
        have h1 := hp p List.mem_cons_self
        have h2 := ih fun x hx => hp x (List.mem_cons_of_mem _ hx)
        simp only [List.map_cons, List.sum_cons, List.length_cons]
        omega
    have q2 := q (l.map cw) fun p hp => Nat.le_of_ble_eq_true (Bool.and_eq_true_iff.mp (P.sm p hp)).1
    have q3 := P.ln
    omega
  unfold f__law_bit_words
  simp only [mkFn, List.length_cons, List.length_nil, if_true, List.replicate, b__law_bit_words, Nat.zero_add]
  rw [show eOp addD (eOp addD (eOp ixD (eVar 1) (eC (.int 0))) (eC (.str [32]))) (eCB strD (eCons (eOp ixD (eVar 1) (eC (.int 1))) (eNil))) = wordE from rfl]
  generalize wordE = we at e ⊢
  generalize (l.map cw).map D.str = WS at e hs
  generalize l.map cw = CW at hs hk ⊢
  generalize hg : gtN 1 = gg at e ⊢
  simp [sSeq, sIf, andS, eTest, eOp, Ev.bind, eVar, eC, op2, look, ixD, cmpI, giveAt, bl?, sAsg, eCB, eCons, eNil, looks, intD, modD, setS, settle, sSetL, eFr, frz, divD, ownL, sRet, outsOf, L2.ixN, mkFn, frA, addD, mulD, sAug, eTup, eLst, shs, lenD, absD, eIf, eAnd, eOr, eNot, eCall, callAt, argsOf, argOf, brs, nodupB, wipeE, back, sFor, eIt, rng1, sApp, ePopAt, gtN, sNext, eUn, negD, listD, minD, sPar, settles, okL0, okL1, okL2, okL3, okL4, at0, gtT, gtsC, gtsN, isD, isNonD, sRaise, neD, p1, p2, hd, eComp, itemsD, sharedAt, restoreE, e, eJoin, joinD, hs, hk, A__law_bit_words]
def suf : List (List Nat) := [[120], [59], [32, 49], [32], [44]]
def reps : List (List Nat) := [[32, 32], [], [95], [32, 48]]
def own2 : List (List Nat) := [[], [110, 111, 110, 101], [110, 111, 110, 101, 32, 48], [53, 32, 110, 111, 110, 101], [53]]
def fore : List (List Nat) := [[32], [43], [65]]
theorem bent' {n : Nat} {B : Sl} {b : Rn} (h : Bx n B) (hn : n < 999900) (hb : okR b) : ∃ (p : List Nat) (B' : Sl), f__law_bent [B, .sh (.str (cw b))] = .ok (.sh (.str p)) [B', .sh (.str (cw b))] ∧ p ∈ bents (cw b) ∧ Bx (n + 2) B' := by
  obtain ⟨r, B1, e1, hr, h1⟩ := take4 h (by omega)
  have z := piece_at hb
  simp only [pieceB, Bool.and_eq_true, Bool.not_eq_true'] at z
  have zl : (cw b).length ≤ 60 := Nat.le_of_ble_eq_true (Bool.and_eq_true_iff.mp z.2.2.1).1
  have hr4 : r = 0 ∨ r = 1 ∨ r = 2 ∨ r = 3 := by omega
  obtain ⟨l0, rfl⟩ := h.ow
  have i0 := okPy_int
  have ok5 : okL 5 = true := rfl
  unfold f__law_bent
  simp only [mkFn, List.length_cons, List.length_nil, if_true, List.replicate, b__law_bent, Nat.zero_add]
  rcases hr4 with rfl | rfl | rfl | rfl
  · obtain ⟨d, B2, e2, hd, h2⟩ := of' (ds := suf.map D.str) (g := .ow (.lst (suf.map D.str))) h1 (by omega) (by decide) (by decide) (.inr rfl)
    obtain ⟨t, ht, rfl⟩ := List.mem_map.mp hd
    have tl : t.length ≤ 2 := (show ∀ t ∈ suf, t.length ≤ 2 by decide) t ht
    have hk : okL ((cw b).length + t.length) = true := Nat.ble_eq_true_of_le (by omega)
    obtain ⟨l1, rfl⟩ := h1.ow
    obtain ⟨l2, rfl⟩ := h2.ow
    refine ⟨cw b ++ t, _, ?_, ?_, h2⟩
    · simp only [suf, List.map_cons, List.map_nil] at e2
      simp [sSeq, sIf, andS, eTest, eOp, Ev.bind, eVar, eC, op2, look, ixD, cmpI, giveAt, bl?, sAsg, eCB, eCons, eNil, looks, intD, modD, setS, settle, sSetL, eFr, frz, divD, ownL, sRet, outsOf, L2.ixN, mkFn, frA, addD, mulD, sAug, eTup, eLst, shs, lenD, absD, eIf, eAnd, eOr, eNot, eCall, callAt, argsOf, argOf, brs, nodupB, wipeE, back, sFor, eIt, rng1, sApp, ePopAt, gtN, sNext, eUn, negD, listD, minD, sPar, settles, okL0, okL1, okL2, okL3, okL4, at0, gtT, gtsC, gtsN, isD, isNonD, sRaise, e1, e2, eqD, i0, deq_int, hk, ok5, A__law_bent]
    · clear hk e2 hd
      simp only [suf, List.mem_cons, List.not_mem_nil, or_false] at ht
      rcases ht with rfl | rfl | rfl | rfl | rfl <;> simp [sSeq, sIf, andS, eTest, eOp, Ev.bind, eVar, eC, op2, look, ixD, cmpI, giveAt, bl?, sAsg, eCB, eCons, eNil, looks, intD, modD, setS, settle, sSetL, eFr, frz, divD, ownL, sRet, outsOf, L2.ixN, mkFn, frA, addD, mulD, sAug, eTup, eLst, shs, lenD, absD, eIf, eAnd, eOr, eNot, eCall, callAt, argsOf, argOf, brs, nodupB, wipeE, back, sFor, eIt, rng1, sApp, ePopAt, gtN, sNext, eUn, negD, listD, minD, sPar, settles, okL0, okL1, okL2, okL3, okL4, at0, gtT, gtsC, gtsN, isD, isNonD, sRaise, bents]
  · obtain ⟨r2, B2, e2, hr2, h2⟩ := take4 h1 (by omega)
    have hz : reps[r2]? = some reps[r2] := List.getElem?_eq_getElem hr2
    have tl : reps[r2].length ≤ 2 := by
      have : ∀ t ∈ reps, t.length ≤ 2 := by decide
      exact this _ (List.getElem_mem hr2)
    generalize ht : reps[r2] = t at hz tl
    have hk : okL ((cw b).length + ((cw b).length + 1) * t.length) = true := Nat.ble_eq_true_of_le (by
      have := Nat.mul_le_mul_left ((cw b).length + 1) tl
      omega)
    obtain ⟨l1, rfl⟩ := h1.ow
    obtain ⟨l2, rfl⟩ := h2.ow
    refine ⟨PySem.StrLaws.replL [32] t (cw b), _, ?_, ?_, h2⟩
    · unfold reps at hz
      simp [sSeq, sIf, andS, eTest, eOp, Ev.bind, eVar, eC, op2, look, ixD, cmpI, giveAt, bl?, sAsg, eCB, eCons, eNil, looks, intD, modD, setS, settle, sSetL, eFr, frz, divD, ownL, sRet, outsOf, L2.ixN, mkFn, frA, addD, mulD, sAug, eTup, eLst, shs, lenD, absD, eIf, eAnd, eOr, eNot, eCall, callAt, argsOf, argOf, brs, nodupB, wipeE, back, sFor, eIt, rng1, sApp, ePopAt, gtN, sNext, eUn, negD, listD, minD, sPar, settles, okL0, okL1, okL2, okL3, okL4, at0, gtT, gtsC, gtsN, isD, isNonD, sRaise, e1, e2, eqD, i0, deq_int, eReplOf, eReplK, hz, hk, A__law_bent]
    · have ht2 : t ∈ reps := ht ▸ List.getElem_mem hr2
      clear hk e2 hz ht
      simp only [reps, List.mem_cons, List.not_mem_nil, or_false] at ht2
      rcases ht2 with rfl | rfl | rfl | rfl <;> simp [sSeq, sIf, andS, eTest, eOp, Ev.bind, eVar, eC, op2, look, ixD, cmpI, giveAt, bl?, sAsg, eCB, eCons, eNil, looks, intD, modD, setS, settle, sSetL, eFr, frz, divD, ownL, sRet, outsOf, L2.ixN, mkFn, frA, addD, mulD, sAug, eTup, eLst, shs, lenD, absD, eIf, eAnd, eOr, eNot, eCall, callAt, argsOf, argOf, brs, nodupB, wipeE, back, sFor, eIt, rng1, sApp, ePopAt, gtN, sNext, eUn, negD, listD, minD, sPar, settles, okL0, okL1, okL2, okL3, okL4, at0, gtT, gtsC, gtsN, isD, isNonD, sRaise, bents]
  · obtain ⟨d, B2, e2, hd, h2⟩ := of' (ds := own2.map D.str) (g := .ow (.lst (own2.map D.str))) h1 (by omega) (by decide) (by decide) (.inr rfl)
    obtain ⟨t, ht, rfl⟩ := List.mem_map.mp hd
    obtain ⟨l1, rfl⟩ := h1.ow
    obtain ⟨l2, rfl⟩ := h2.ow
    refine ⟨t, _, ?_, ?_, h2⟩
    · simp only [own2, List.map_cons, List.map_nil] at e2
      simp [sSeq, sIf, andS, eTest, eOp, Ev.bind, eVar, eC, op2, look, ixD, cmpI, giveAt, bl?, sAsg, eCB, eCons, eNil, looks, intD, modD, setS, settle, sSetL, eFr, frz, divD, ownL, sRet, outsOf, L2.ixN, mkFn, frA, addD, mulD, sAug, eTup, eLst, shs, lenD, absD, eIf, eAnd, eOr, eNot, eCall, callAt, argsOf, argOf, brs, nodupB, wipeE, back, sFor, eIt, rng1, sApp, ePopAt, gtN, sNext, eUn, negD, listD, minD, sPar, settles, okL0, okL1, okL2, okL3, okL4, at0, gtT, gtsC, gtsN, isD, isNonD, sRaise, e1, e2, eqD, i0, deq_int, ok5, A__law_bent]
    · clear e2 hd
      simp only [own2, List.mem_cons, List.not_mem_nil, or_false] at ht
      rcases ht with rfl | rfl | rfl | rfl | rfl <;> simp [sSeq, sIf, andS, eTest, eOp, Ev.bind, eVar, eC, op2, look, ixD, cmpI, giveAt, bl?, sAsg, eCB, eCons, eNil, looks, intD, modD, setS, settle, sSetL, eFr, frz, divD, ownL, sRet, outsOf, L2.ixN, mkFn, frA, addD, mulD, sAug, eTup, eLst, shs, lenD, absD, eIf, eAnd, eOr, eNot, eCall, callAt, argsOf, argOf, brs, nodupB, wipeE, back, sFor, eIt, rng1, sApp, ePopAt, gtN, sNext, eUn, negD, listD, minD, sPar, settles, okL0, okL1, okL2, okL3, okL4, at0, gtT, gtsC, gtsN, isD, isNonD, sRaise, bents]
  · obtain ⟨d, B2, e2, hd, h2⟩ := of' (ds := fore.map D.str) (g := .ow (.lst (fore.map D.str))) h1 (by omega) (by decide) (by decide) (.inr rfl)
    obtain ⟨t, ht, rfl⟩ := List.mem_map.mp hd
    have tl : t.length ≤ 2 := (show ∀ t ∈ fore, t.length ≤ 2 by decide) t ht
    have hk : okL (t.length + (cw b).length) = true := Nat.ble_eq_true_of_le (by omega)
    obtain ⟨l1, rfl⟩ := h1.ow
    obtain ⟨l2, rfl⟩ := h2.ow
    refine ⟨t ++ cw b, _, ?_, ?_, h2⟩
    · simp only [fore, List.map_cons, List.map_nil] at e2
      simp [sSeq, sIf, andS, eTest, eOp, Ev.bind, eVar, eC, op2, look, ixD, cmpI, giveAt, bl?, sAsg, eCB, eCons, eNil, looks, intD, modD, setS, settle, sSetL, eFr, frz, divD, ownL, sRet, outsOf, L2.ixN, mkFn, frA, addD, mulD, sAug, eTup, eLst, shs, lenD, absD, eIf, eAnd, eOr, eNot, eCall, callAt, argsOf, argOf, brs, nodupB, wipeE, back, sFor, eIt, rng1, sApp, ePopAt, gtN, sNext, eUn, negD, listD, minD, sPar, settles, okL0, okL1, okL2, okL3, okL4, at0, gtT, gtsC, gtsN, isD, isNonD, sRaise, e1, e2, eqD, i0, deq_int, hk, A__law_bent]
    · clear hk e2 hd
      simp only [fore, List.mem_cons, List.not_mem_nil, or_false] at ht
      rcases ht with rfl | rfl | rfl <;> simp [sSeq, sIf, andS, eTest, eOp, Ev.bind, eVar, eC, op2, look, ixD, cmpI, giveAt, bl?, sAsg, eCB, eCons, eNil, looks, intD, modD, setS, settle, sSetL, eFr, frz, divD, ownL, sRet, outsOf, L2.ixN, mkFn, frA, addD, mulD, sAug, eTup, eLst, shs, lenD, absD, eIf, eAnd, eOr, eNot, eCall, callAt, argsOf, argOf, brs, nodupB, wipeE, back, sFor, eIt, rng1, sApp, ePopAt, gtN, sNext, eUn, negD, listD, minD, sPar, settles, okL0, okL1, okL2, okL3, okL4, at0, gtT, gtsC, gtsN, isD, isNonD, sRaise, bents]
end PM.porterhands_k02_wrong_texts_of_runs

set_option linter.all false
set_option maxRecDepth 100000
set_option maxHeartbeats 4000000
namespace PM.porterhands_k02_wrong_texts_of_runs
open PM
theorem heard_none : f__law_heard [.sh (.str [45])] = .ok (.sh (.tup [])) [.sh (.str [45])] := by rfl
theorem back2o (ρ : Env) (a b : D) : ∀ outs, back ρ [.ow a, .ow b] outs = ρ
  | [] => rfl
  | [_] => rfl
  | [_, _] => rfl
  | _ :: _ :: _ :: _ => rfl
theorem pl_rn {b : Rn} (h : okR b) (n : Nat) : pl (n + 1) (rn b) = true := by
  have q := names_small b.1 h.1
  unfold rn
  unfold pl
  rw [Bool.and_eq_true]
  refine ⟨?_, rfl⟩
  rw [List.all_cons, List.all_cons, List.all_nil, Bool.and_true]
  have e1 : pl n (.str b.1) = true := by cases n <;> exact q
  have e2 : pl n (.int (b.2 : Int)) = true := by cases n <;> rfl
  rw [e1, e2]
  rfl
theorem pl_res {l : List Rn} {r : Int} (h : ∀ b ∈ l, okR b) (hl : l.length ≤ 6) : pl 7 (.lst [.lst [.int r], .tup (l.map rn)]) = true := by
  have e : pl 6 (.tup (l.map rn)) = true := by
    show ((l.map rn).all (pl 5) && Nat.ble (l.map rn).length 1000) = true
    rw [Bool.and_eq_true]
    refine ⟨List.all_eq_true.mpr fun d hd => ?_, Nat.ble_eq_true_of_le (by rw [List.length_map]; omega)⟩
    obtain ⟨b, hb, rfl⟩ := List.mem_map.mp hd
    exact pl_rn (h b hb) 4
  show (pl 6 (.lst [.int r]) && (pl 6 (.tup (l.map rn)) && true)) && true = true
  rw [e]
  rfl
theorem set_split {α : Type} : ∀ {l : List α} {r : Nat} {p : α}, r < l.length → l.set r p = l.take r ++ p :: l.drop (r + 1)
  | _ :: _, 0, _, _ => rfl
  | a :: l, r + 1, p, h => by
    show a :: l.set r p = a :: (l.take r ++ p :: l.drop (r + 1))
    rw [set_split (by simpa [sSeq, sIf, andS, eTest, eOp, Ev.bind, eVar, eC, op2, look, ixD, cmpI, giveAt, bl?, sAsg, eCB, eCons, eNil, looks, intD, modD, setS, settle, sSetL, eFr, frz, divD, ownL, sRet, outsOf, L2.ixN, mkFn, frA, addD, mulD, sAug, eTup, eLst, shs, lenD, absD, eIf, eAnd, eOr, eNot, eCall, callAt, argsOf, argOf, brs, nodupB, wipeE, back, sFor, eIt, rng1, sApp, ePopAt, gtN, sNext, eUn, negD, listD, minD, sPar, settles, okL0, okL1, okL2, okL3, okL4, at0, gtT, gtsC, gtsN, isD, isNonD, sRaise] using h)]
theorem adj_take : ∀ {l : List Rn} (r : Nat), adj l → adj (l.take r)
  | _, 0, _ => by simp [sSeq, sIf, andS, eTest, eOp, Ev.bind, eVar, eC, op2, look, ixD, cmpI, giveAt, bl?, sAsg, eCB, eCons, eNil, looks, intD, modD, setS, settle, sSetL, eFr, frz, divD, ownL, sRet, outsOf, L2.ixN, mkFn, frA, addD, mulD, sAug, eTup, eLst, shs, lenD, absD, eIf, eAnd, eOr, eNot, eCall, callAt, argsOf, argOf, brs, nodupB, wipeE, back, sFor, eIt, rng1, sApp, ePopAt, gtN, sNext, eUn, negD, listD, minD, sPar, settles, okL0, okL1, okL2, okL3, okL4, at0, gtT, gtsC, gtsN, isD, isNonD, sRaise, adj]
  | [], _ + 1, _ => trivial
  | [a], _ + 1, _ => by simp [sSeq, sIf, andS, eTest, eOp, Ev.bind, eVar, eC, op2, look, ixD, cmpI, giveAt, bl?, sAsg, eCB, eCons, eNil, looks, intD, modD, setS, settle, sSetL, eFr, frz, divD, ownL, sRet, outsOf, L2.ixN, mkFn, frA, addD, mulD, sAug, eTup, eLst, shs, lenD, absD, eIf, eAnd, eOr, eNot, eCall, callAt, argsOf, argOf, brs, nodupB, wipeE, back, sFor, eIt, rng1, sApp, ePopAt, gtN, sNext, eUn, negD, listD, minD, sPar, settles, okL0, okL1, okL2, okL3, okL4, at0, gtT, gtsC, gtsN, isD, isNonD, sRaise, adj]
  | a :: b :: l, 1, _ => trivial
  | a :: b :: l, r + 2, h => ⟨h.1, adj_take (l := b :: l) (r + 1) h.2⟩
theorem at_words {l : List Rn} {r : Nat} (hr : r < l.length) : atD ((l.map cw).map D.str) (r : Int) = some (.str (cw l[r])) := by
  unfold atD
  rw [if_pos (by omega), List.length_map, List.length_map, if_pos (by omega), Int.toNat_natCast, List.getElem?_map, List.getElem?_map, List.getElem?_eq_getElem hr]
  rfl
theorem join_ok {ps : List (List Nat)} (h : Ps ps) : joinD [59, 32] (.lst (ps.map D.str)) = some (.str (TL.joinL [59, 32] ps)) := by
  have hk : okL ((ps.map List.length).sum + ps.length * 2) = true := by
    refine Nat.ble_eq_true_of_le ?_
    have q : ∀ ps : List (List Nat), (∀ p ∈ ps, p.length ≤ 60) → (ps.map List.length).sum ≤ 60 * ps.length := by
      intro ps
      induction ps with
      | nil => intro _; simp [sSeq, sIf, andS, eTest, eOp, Ev.bind, eVar, eC, op2, look, ixD, cmpI, giveAt, bl?, sAsg, eCB, eCons, eNil, looks, intD, modD, setS, settle, sSetL, eFr, frz, divD, ownL, sRet, outsOf, L2.ixN, mkFn, frA, addD, mulD, sAug, eTup, eLst, shs, lenD, absD, eIf, eAnd, eOr, eNot, eCall, callAt, argsOf, argOf, brs, nodupB, wipeE, back, sFor, eIt, rng1, sApp, ePopAt, gtN, sNext, eUn, negD, listD, minD, sPar, settles, okL0, okL1, okL2, okL3, okL4, at0, gtT, gtsC, gtsN, isD, isNonD, sRaise]
      | cons p ps ih =>
        intro hp
        have h1 := hp p List.mem_cons_self
        have h2 := ih fun x hx => hp x (List.mem_cons_of_mem _ hx)
        simp only [List.map_cons, List.sum_cons, List.length_cons]
        omega
    have q2 := q ps fun p hp => Nat.le_of_ble_eq_true (Bool.and_eq_true_iff.mp (h.sm p hp)).1
    have q3 := h.ln
    omega
  simp [sSeq, sIf, andS, eTest, eOp, Ev.bind, eVar, eC, op2, look, ixD, cmpI, giveAt, bl?, sAsg, eCB, eCons, eNil, looks, intD, modD, setS, settle, sSetL, eFr, frz, divD, ownL, sRet, outsOf, L2.ixN, mkFn, frA, addD, mulD, sAug, eTup, eLst, shs, lenD, absD, eIf, eAnd, eOr, eNot, eCall, callAt, argsOf, argOf, brs, nodupB, wipeE, back, sFor, eIt, rng1, sApp, ePopAt, gtN, sNext, eUn, negD, listD, minD, sPar, settles, okL0, okL1, okL2, okL3, okL4, at0, gtT, gtsC, gtsN, isD, isNonD, sRaise, joinD, strsD_map, hk]
theorem case' {n : Nat} {B : Sl} (h : Bx n B) (hn : n < 999000) : ∃ B', f__law_case_right [B] = .ok (.sh (.bl true)) [B'] ∧ Bx (n + 100) B' := by
  obtain ⟨ts, B1, e1, t1, t2, t3, h1⟩ := kinds' h (by omega)
  obtain ⟨B2, l, e2, h2, q1, q2, q3⟩ := bits' h1 (by omega) t1 t2 t3
  obtain ⟨c0, rfl⟩ := h.ow
  obtain ⟨c1, rfl⟩ := h1.ow
  unfold f__law_case_right
  simp only [mkFn, List.length_cons, List.length_nil, if_true, List.replicate, b__law_case_right, Nat.zero_add]
  have p2 : okPy (.tup []) = true := rfl
  by_cases h0 : l = []
  · subst h0
    obtain ⟨outs, es⟩ := (same_refl 7 (.tup [])).2 rfl rfl (.sh (.tup [])) (.sh (.tup [])) (.inl rfl) (.inl rfl)
    obtain ⟨c2, rfl⟩ := h2.ow
    have hd : deq (.tup []) (.tup []) = true := rfl
    have hn' := heard_none
    refine ⟨_, ?_, h2.mono (by omega)⟩
    generalize f__law_same 8 = fs at es ⊢
    simp [sSeq, sIf, andS, eTest, eOp, Ev.bind, eVar, eC, op2, look, ixD, cmpI, giveAt, bl?, sAsg, eCB, eCons, eNil, looks, intD, modD, setS, settle, sSetL, eFr, frz, divD, ownL, sRet, outsOf, L2.ixN, mkFn, frA, addD, mulD, sAug, eTup, eLst, shs, lenD, absD, eIf, eAnd, eOr, eNot, eCall, callAt, argsOf, argOf, brs, nodupB, wipeE, back, sFor, eIt, rng1, sApp, ePopAt, gtN, sNext, eUn, negD, listD, minD, sPar, settles, okL0, okL1, okL2, okL3, okL4, at0, gtT, gtsC, gtsN, isD, isNonD, sRaise, e1, e2, eqD, p2, hd, hn', back2, es, A__law_case_right]
  · obtain ⟨o1, w1⟩ := words' h0 q1 q3
    have P := ps_cw h0 q1 q3
    have s1 := P.split
    have hpos : 0 < l.length := List.length_pos_iff.mpr h0
    obtain ⟨r, B3, e3, hr, h3⟩ := take' (s := l.length) h2 (by omega) hpos (by omega)
    obtain ⟨p, B4, e4, hp, h4⟩ := bent' (b := l[r]) h3 (by omega) (q1 _ (List.getElem_mem hr))
    obtain ⟨b1, b2, b3, b4⟩ := bent_at (q1 _ (List.getElem_mem hr)) hp
    have hset : (l.map cw).set r p = (l.take r).map cw ++ p :: (l.drop (r + 1)).map cw := by
      rw [set_split (by rw [List.length_map]; exact hr), List.map_take, List.map_drop]
    obtain ⟨o2, r1⟩ := runs_bent (l1 := l.take r) (l2 := l.drop (r + 1)) (p := p) (fun x hx => q1 x (List.mem_of_mem_take hx)) (fun x hx => q1 x (List.mem_of_mem_drop hx)) (adj_take r q2) (by rw [List.length_take, List.length_drop]; omega) b1 b2 b3 b4
    rw [← hset, List.length_take, Nat.min_eq_left (by omega)] at r1
    obtain ⟨o3, g1⟩ := heard_exc r1
    obtain ⟨o4, r2⟩ := runs_good h0 q1 q2 q3
    obtain ⟨o5, g2⟩ := heard_ok r2
    obtain ⟨o6, g3⟩ := (same_refl 7 (.lst [.lst [.int (r : Int)], .tup (l.map rn)])).2 (pl_res q1 q3) rfl (.ow (.lst [.lst [.int (r : Int)], .tup (l.map rn)])) (.ow (.lst [.lst [.int (r : Int)], .tup (l.map rn)])) (.inr rfl) (.inr rfl)
    have PB : Ps ((l.map cw).set r p) := by
      have q : ∀ x ∈ (l.map cw).set r p, freeB x = true ∧ smallB x = true ∧ (x == [45]) = false := fun x hx => by
        rcases List.mem_or_eq_of_mem_set hx with z | z
        · exact ⟨P.fr x z, P.sm x z, P.no x z⟩
        · rw [z]; exact ⟨b2, b3, b4⟩
      exact ⟨fun z => by have := congrArg List.length z; simp [sSeq, sIf, andS, eTest, eOp, Ev.bind, eVar, eC, op2, look, ixD, cmpI, giveAt, bl?, sAsg, eCB, eCons, eNil, looks, intD, modD, setS, settle, sSetL, eFr, frz, divD, ownL, sRet, outsOf, L2.ixN, mkFn, frA, addD, mulD, sAug, eTup, eLst, shs, lenD, absD, eIf, eAnd, eOr, eNot, eCall, callAt, argsOf, argOf, brs, nodupB, wipeE, back, sFor, eIt, rng1, sApp, ePopAt, gtN, sNext, eUn, negD, listD, minD, sPar, settles, okL0, okL1, okL2, okL3, okL4, at0, gtT, gtsC, gtsN, isD, isNonD, sRaise] at this; exact h0 this, fun x hx => (q x hx).1, fun x hx => (q x hx).2.1, fun x hx => (q x hx).2.2, by rw [List.length_set]; exact P.ln⟩
    have j1 := join_ok PB
    rw [List.map_set] at j1
    have a1 := at_words hr
    have hd : deq (.tup (l.map rn)) (.tup []) = false := by
      cases l with
      | nil => exact absurd rfl h0
      | cons b l => rfl
    have p1 := okPy_tup q1
    have hlen : ((l.map cw).map D.str).length = l.length := by rw [List.length_map, List.length_map]
    obtain ⟨c2, rfl⟩ := h2.ow
    obtain ⟨c3, rfl⟩ := h3.ow
    obtain ⟨c4, rfl⟩ := h4.ow
    refine ⟨_, ?_, h4.mono (by omega)⟩
    generalize f__law_same 8 = fs at g3 ⊢
    generalize TL.joinL [59, 32] ((l.map cw).set r p) = J1 at *
    generalize TL.joinL [59, 32] (l.map cw) = J2 at *
    generalize (l.map cw).map D.str = WS at *
    generalize cw l[r] = cb at *
    rw [← hlen] at e3 hr
    simp [sSeq, sIf, andS, eTest, eOp, Ev.bind, eVar, eC, op2, look, ixD, cmpI, giveAt, bl?, sAsg, eCB, eCons, eNil, looks, intD, modD, setS, settle, sSetL, eFr, frz, divD, ownL, sRet, outsOf, L2.ixN, mkFn, frA, addD, mulD, sAug, eTup, eLst, shs, lenD, absD, eIf, eAnd, eOr, eNot, eCall, callAt, argsOf, argOf, brs, nodupB, wipeE, back, sFor, eIt, rng1, sApp, ePopAt, gtN, sNext, eUn, negD, listD, minD, sPar, settles, okL0, okL1, okL2, okL3, okL4, at0, gtT, gtsC, gtsN, isD, isNonD, sRaise, e1, e2, eqD, p1, p2, hd, back1, w1, eSplit, s1, e3, a1, e4, hr, j1, eJoin, g1, g2, g3, back2o, A__law_case_right]
end PM.porterhands_k02_wrong_texts_of_runs

set_option linter.all false
set_option maxRecDepth 100000
set_option maxHeartbeats 4000000
namespace PM.porterhands_k02_wrong_texts_of_runs
open PM
def handB : Bool := match f__law_by_hand_right [] with
  | .ok (.sh (.bl true)) [] => true
  | _ => false
theorem hand_ok : handB = true := by decide +kernel
theorem hand' : f__law_by_hand_right [] = .ok (.sh (.bl true)) [] := by
  have h := hand_ok
  unfold handB at h
  split at h
  · assumption
  · cases h
def caseE : Ev Sl := eCall f__law_case_right (eCons (eVar 0) (eNil))
theorem cases_loop {n : Nat} {B : Sl} (h : Bx n B) (hn : n < 900000) (m : Nat) (hm : m ≤ 60) : ∃ B', lcT [1] (gtN 1) eYes caseE (rngD 0 m) [] [B, .no] = .ok (List.replicate m (.bl true)) [B', .no] ∧ Bx (n + 100 * m) B' := by
  have hlr : (rngD 0 m).length = m := by simp [sSeq, sIf, andS, eTest, eOp, Ev.bind, eVar, eC, op2, look, ixD, cmpI, giveAt, bl?, sAsg, eCB, eCons, eNil, looks, intD, modD, setS, settle, sSetL, eFr, frz, divD, ownL, sRet, outsOf, L2.ixN, mkFn, frA, addD, mulD, sAug, eTup, eLst, shs, lenD, absD, eIf, eAnd, eOr, eNot, eCall, callAt, argsOf, argOf, brs, nodupB, wipeE, back, sFor, eIt, rng1, sApp, ePopAt, gtN, sNext, eUn, negD, listD, minD, sPar, settles, okL0, okL1, okL2, okL3, okL4, at0, gtT, gtsC, gtsN, isD, isNonD, sRaise, rngD]
  have key := lcT_inv (own := [1]) (g := gtN 1) (m := caseE) (fun i acc ρ => acc = List.replicate i (.bl true) ∧ ∃ B, ρ = [B, .no] ∧ Bx (n + 100 * i) B) (rngD 0 m) 0 [] [B, .no] ⟨rfl, B, rfl, h.mono (by omega)⟩ (by rw [hlr]; simp [sSeq, sIf, andS, eTest, eOp, Ev.bind, eVar, eC, op2, look, ixD, cmpI, giveAt, bl?, sAsg, eCB, eCons, eNil, looks, intD, modD, setS, settle, sSetL, eFr, frz, divD, ownL, sRet, outsOf, L2.ixN, mkFn, frA, addD, mulD, sAug, eTup, eLst, shs, lenD, absD, eIf, eAnd, eOr, eNot, eCall, callAt, argsOf, argOf, brs, nodupB, wipeE, back, sFor, eIt, rng1, sApp, ePopAt, gtN, sNext, eUn, negD, listD, minD, sPar, settles, okL0, okL1, okL2, okL3, okL4, at0, gtT, gtsC, gtsN, isD, isNonD, sRaise]; omega) ?_
  · obtain ⟨acc, ρ, e, q1, B', q2, q3⟩ := key
    rw [hlr, Nat.zero_add] at q1 q3
    exact ⟨B', by rw [e, q1, q2], q3⟩
  · intro i d acc ρ hi hP
    have hi' : i < m := by
      have := (List.getElem?_eq_some_iff.mp hi).1
      rwa [hlr] at this
    obtain ⟨rfl, B, rfl, hB⟩ := hP
    rw [Nat.zero_add] at hB
    obtain ⟨B', e, h'⟩ := case' hB (by omega)
    obtain ⟨c0, rfl⟩ := hB.ow
    obtain ⟨c1, rfl⟩ := h'.ow
    refine ⟨[.ow (.lst c0), .sh d], by simp [sSeq, sIf, andS, eTest, eOp, Ev.bind, eVar, eC, op2, look, ixD, cmpI, giveAt, bl?, sAsg, eCB, eCons, eNil, looks, intD, modD, setS, settle, sSetL, eFr, frz, divD, ownL, sRet, outsOf, L2.ixN, mkFn, frA, addD, mulD, sAug, eTup, eLst, shs, lenD, absD, eIf, eAnd, eOr, eNot, eCall, callAt, argsOf, argOf, brs, nodupB, wipeE, back, sFor, eIt, rng1, sApp, ePopAt, gtN, sNext, eUn, negD, listD, minD, sPar, settles, okL0, okL1, okL2, okL3, okL4, at0, gtT, gtsC, gtsN, isD, isNonD, sRaise], .bl true, [.ow (.lst c1), .sh d], ?_, by rw [← List.replicate_succ'], .ow (.lst c1), rfl, h'.mono (by omega)⟩
    simp [sSeq, sIf, andS, eTest, eOp, Ev.bind, eVar, eC, op2, look, ixD, cmpI, giveAt, bl?, sAsg, eCB, eCons, eNil, looks, intD, modD, setS, settle, sSetL, eFr, frz, divD, ownL, sRet, outsOf, L2.ixN, mkFn, frA, addD, mulD, sAug, eTup, eLst, shs, lenD, absD, eIf, eAnd, eOr, eNot, eCall, callAt, argsOf, argOf, brs, nodupB, wipeE, back, sFor, eIt, rng1, sApp, ePopAt, gtN, sNext, eUn, negD, listD, minD, sPar, settles, okL0, okL1, okL2, okL3, okL4, at0, gtT, gtsC, gtsN, isD, isNonD, sRaise, caseE, e]
theorem right' {n : Nat} {B : Sl} (h : Bx n B) (hn : n < 900000) : ∃ outs, f__law_right [B] = .ok (.sh (.bl true)) outs := by
  obtain ⟨B', e, h'⟩ := cases_loop h hn 6 (by decide)
  have r1 := asBls_rep 6
  have r2 := all_rep 6
  obtain ⟨c0, rfl⟩ := h.ow
  obtain ⟨c1, rfl⟩ := h'.ow
  have hh := hand'
  unfold f__law_right
  simp only [mkFn, List.length_cons, List.length_nil, if_true, List.replicate, b__law_right, Nat.zero_add]
  rw [show eCall f__law_case_right (eCons (eVar 0) (eNil)) = caseE from rfl]
  generalize caseE = ce at e ⊢
  generalize hR : List.replicate 6 (D.bl true) = R at e r1
  generalize hR2 : List.replicate 6 true = R2 at r1 r2
  generalize hg : gtN 1 = gg at e ⊢
  simp [sSeq, sIf, andS, eTest, eOp, Ev.bind, eVar, eC, op2, look, ixD, cmpI, giveAt, bl?, sAsg, eCB, eCons, eNil, looks, intD, modD, setS, settle, sSetL, eFr, frz, divD, ownL, sRet, outsOf, L2.ixN, mkFn, frA, addD, mulD, sAug, eTup, eLst, shs, lenD, absD, eIf, eAnd, eOr, eNot, eCall, callAt, argsOf, argOf, brs, nodupB, wipeE, back, sFor, eIt, rng1, sApp, ePopAt, gtN, sNext, eUn, negD, listD, minD, sPar, settles, okL0, okL1, okL2, okL3, okL4, at0, gtT, gtsC, gtsN, isD, isNonD, sRaise, hh, eAndV, eComp, sharedAt, restoreE, e, allD, r1, r2, A__law_right]
end PM.porterhands_k02_wrong_texts_of_runs

set_option linter.all false
set_option maxRecDepth 100000
set_option maxHeartbeats 4000000
namespace PM.porterhands_k02_wrong_texts_of_runs
open PM
/-! ### the box, the cells -/
theorem at_ints {cs : List Int} {k : Nat} (hk : k < cs.length) : atD (cs.map D.int) (k : Int) = some (.int cs[k]) := by
  unfold atD
  rw [if_pos (by omega), List.length_map, if_pos (by omega), Int.toNat_natCast, List.getElem?_map, List.getElem?_eq_getElem hk]
  rfl
theorem box' {cs : List Int} {k : Nat} (hk : k < cs.length) (hc : cs.length ≤ 3) : ∃ B, f__law_box [.ow (.lst (cs.map D.int)), .sh (.int (k : Int))] = .ok B [.ow (.lst (cs.map D.int)), .sh (.int (k : Int))] ∧ Bx 0 B := by
  have a1 := at_ints hk
  have hp : Nat.blt 10 18446744073709551616 = true := rfl
  have m1 : ∀ (i : Int) (b : Bool), mulOk i (if b = true then 1 else 0) = true := fun i b => by cases b <;> exact mul_r (by decide)
  have m1' : ∀ (i : Int) (p : Prop) [Decidable p], mulOk i (if p then 1 else 0) = true := fun i p _ => by
    by_cases h : p
    · rw [if_pos h]; exact mul_r (by decide)
    · rw [if_neg h]; exact mul_r (by decide)
  have m2 : ∀ i : Int, mulOk 39373 i = true := fun i => mul_l (by decide)
  generalize hcv : cs[k] = cv at a1
  refine ⟨.ow (.lst [.int ((if cv < 0 then -cv else cv) * (if 1000000000000000000 ≤ (if cv < 0 then -cv else cv) then 1 else 0)), .int (cv % 2305843009213693951 + 39373 * (k : Int) + 82802), .int 0]), ?_, _, _, _, rfl, by omega, by omega⟩
  unfold f__law_box
  simp only [mkFn, List.length_cons, List.length_nil, if_true, List.replicate, b__law_box, Nat.zero_add]
  simp [sSeq, sIf, andS, eTest, eOp, Ev.bind, eVar, eC, op2, look, ixD, cmpI, giveAt, bl?, sAsg, eCB, eCons, eNil, looks, intD, modD, setS, settle, sSetL, eFr, frz, divD, ownL, sRet, outsOf, mkFn, frA, addD, mulD, sAug, eTup, eLst, shs, lenD, absD, eIf, eAnd, eOr, eNot, eCall, callAt, argsOf, argOf, brs, nodupB, wipeE, back, sFor, eIt, rng1, sApp, ePopAt, gtN, sNext, eUn, negD, listD, minD, sPar, settles, okL0, okL1, okL2, okL3, okL4, at0, gtT, gtsC, gtsN, isD, isNonD, sRaise, a1, hk, hp, powD, m1, m1', m2, A__law_box]
def cellBody : Sv := sSeq (sAsg 5 (eOp modD (eCB intD (eCons (eVar 3) (eNil))) (eVar 1))) (sSetL 2 (eOp addD (eOp ixD (eVar 2) (eVar 5)) (eOp mulD (eVar 4) (eOp addD (eVar 3) (eC (.int 2))))) (eVar 5))
abbrev cellG : Gt := gtT 2 (gtsC (gtN 3) (gtsC (gtN 4) (gtsN)))
theorem cell_step {T x3 x4 x5 : Sl} {cs : List Int} {c : Int} {k : Nat} (hc : cs.length = 3) (hk : k < 100) :
    ∃ (ρ1 : Env) (cs' : List Int) (y3 y4 y5 : Sl), cellG (.tup [.int (k : Int), .int c]) [T, .sh (.int 3), .ow (.lst (cs.map D.int)), x3, x4, x5] = some ρ1 ∧ cellBody ρ1 = .nx [T, .sh (.int 3), .ow (.lst (cs'.map D.int)), y3, y4, y5] ∧ cs'.length = 3 := by
  obtain ⟨j, hj⟩ : ∃ j : Nat, k % 3 = j := ⟨_, rfl⟩
  have hj3 : j < 3 := by omega
  have e1 : (k : Int) % 3 = (j : Int) := by omega
  have a1 := at_ints (cs := cs) (k := j) (by omega)
  have m1 : ∀ i : Int, mulOk i ((k : Int) + 2) = true := fun i => mul_r (by omega)
  have hx : L2.ixN 3 (j : Int) = some j := by
    unfold L2.ixN
    rw [if_pos (by omega), if_pos (by omega), Int.toNat_natCast]
  refine ⟨[T, .sh (.int 3), .ow (.lst (cs.map D.int)), .sh (.int (k : Int)), .sh (.int c), x5], cs.set j (cs[j] + c * ((k : Int) + 2)), .sh (.int (k : Int)), .sh (.int c), .sh (.int (j : Int)), by simp [sSeq, sIf, andS, eTest, eOp, Ev.bind, eVar, eC, op2, look, ixD, cmpI, giveAt, bl?, sAsg, eCB, eCons, eNil, looks, intD, modD, setS, settle, sSetL, eFr, frz, divD, ownL, sRet, outsOf, mkFn, frA, addD, mulD, sAug, eTup, eLst, shs, lenD, absD, eIf, eAnd, eOr, eNot, eCall, callAt, argsOf, argOf, brs, nodupB, wipeE, back, sFor, eIt, rng1, sApp, ePopAt, gtN, sNext, eUn, negD, listD, minD, sPar, settles, okL0, okL1, okL2, okL3, okL4, at0, gtT, gtsC, gtsN, isD, isNonD, sRaise], ?_, by simp [sSeq, sIf, andS, eTest, eOp, Ev.bind, eVar, eC, op2, look, ixD, cmpI, giveAt, bl?, sAsg, eCB, eCons, eNil, looks, intD, modD, setS, settle, sSetL, eFr, frz, divD, ownL, sRet, outsOf, mkFn, frA, addD, mulD, sAug, eTup, eLst, shs, lenD, absD, eIf, eAnd, eOr, eNot, eCall, callAt, argsOf, argOf, brs, nodupB, wipeE, back, sFor, eIt, rng1, sApp, ePopAt, gtN, sNext, eUn, negD, listD, minD, sPar, settles, okL0, okL1, okL2, okL3, okL4, at0, gtT, gtsC, gtsN, isD, isNonD, sRaise, hc]⟩
  simp [sSeq, sIf, andS, eTest, eOp, Ev.bind, eVar, eC, op2, look, ixD, cmpI, giveAt, bl?, sAsg, eCB, eCons, eNil, looks, intD, modD, setS, settle, sSetL, eFr, frz, divD, ownL, sRet, outsOf, mkFn, frA, addD, mulD, sAug, eTup, eLst, shs, lenD, absD, eIf, eAnd, eOr, eNot, eCall, callAt, argsOf, argOf, brs, nodupB, wipeE, back, sFor, eIt, rng1, sApp, ePopAt, gtN, sNext, eUn, negD, listD, minD, sPar, settles, okL0, okL1, okL2, okL3, okL4, at0, gtT, gtsC, gtsN, isD, isNonD, sRaise, cellBody, e1, a1, m1, hc, hx, List.map_set]
theorem cells' (ns : List Int) (hn : ns.length ≤ 63) : ∃ (cs : List Int) (outs : List Sl), f__law_cells [.sh (.scr ns), .sh (.int 3)] = .ok (.ow (.lst (cs.map D.int))) outs ∧ cs.length ≤ 3 := by
  have c1 : cutD ns none (some 3) = ns.take 3 := by
    unfold cutD
    rw [HT.sIx_none, show HT.sIx ns.length ns.length (some 3) = min 3 ns.length from HT.sIx_nat _ _ 3, List.drop_zero, Nat.sub_zero]
    rcases Nat.le_total 3 ns.length with h | h
    · rw [Nat.min_eq_left h]
    · rw [Nat.min_eq_right h, List.take_of_length_le (Nat.le_refl _), List.take_of_length_le h]
  have c2 : ∃ rest : List Int, cutD ns (some 3) (some 63) = rest ∧ rest.length ≤ 60 ∧ (rest ≠ [] → 3 ≤ ns.length) := by
    refine ⟨_, rfl, ?_, fun h => ?_⟩
    · unfold cutD
      rw [List.length_take, List.length_drop, show HT.sIx ns.length 0 (some 3) = min 3 ns.length from HT.sIx_nat _ _ 3]
      omega
    · by_cases h3 : 3 ≤ ns.length
      · exact h3
      · exfalso
        apply h
        unfold cutD
        rw [show HT.sIx ns.length 0 (some 3) = min 3 ns.length from HT.sIx_nat _ _ 3, Nat.min_eq_right (by omega), List.drop_length, List.take_nil]
  obtain ⟨rest, c2, r1, r2⟩ := c2
  obtain ⟨st, hst, s1, s2⟩ : ∃ st : List Int, (if ns.take 3 = [] then [0] else ns.take 3) = st ∧ st.length ≤ 3 ∧ (rest ≠ [] → st.length = 3) := by
    refine ⟨_, rfl, ?_, fun h => ?_⟩
    · split
      · decide
      · rw [List.length_take]; omega
    · have := r2 h
      rw [if_neg (fun z => by have := congrArg List.length z; rw [List.length_take, List.length_nil] at this; omega), List.length_take]
      omega
  have key := forL_inv (g := cellG) (body := cellBody) (fun i ρ => ∃ (cs : List Int) (x3 x4 x5 : Sl), ρ = [.sh (.scr ns), .sh (.int 3), .ow (.lst (cs.map D.int)), x3, x4, x5] ∧ cs.length ≤ 3 ∧ (rest ≠ [] → cs.length = 3)) (enumF 0 (rest.map D.int)) 0
    [.sh (.scr ns), .sh (.int 3), .ow (.lst (st.map D.int)), .no, .no, .no] ⟨st, _, _, _, rfl, s1, s2⟩ ?_
  · obtain ⟨ρ', e, cs, x3, x4, x5, rfl, q1, q2⟩ := key
    unfold f__law_cells
    simp only [mkFn, List.length_cons, List.length_nil, if_true, List.replicate, b__law_cells, Nat.zero_add]
    rw [show (sSeq (sAsg 5 (eOp modD (eCB intD (eCons (eVar 3) (eNil))) (eVar 1))) (sSetL 2 (eOp addD (eOp ixD (eVar 2) (eVar 5)) (eOp mulD (eVar 4) (eOp addD (eVar 3) (eC (.int 2))))) (eVar 5))) = cellBody from rfl]
    unfold cellG at e
    generalize cellBody = bd at e ⊢
    generalize hg : (gtT 2 (gtsC (gtN 3) (gtsC (gtN 4) (gtsN)))) = gg at e ⊢
    by_cases hnil : ns.take 3 = []
    · rw [if_pos hnil] at hst
      subst hst
      simp only [List.map_cons, List.map_nil] at e
      refine ⟨cs, [.sh (.scr ns), .sh (.int 3)], ?_, q1⟩
      simp [sSeq, sIf, andS, eTest, eOp, Ev.bind, eVar, eC, op2, look, ixD, cmpI, giveAt, bl?, sAsg, eCB, eCons, eNil, looks, intD, modD, setS, settle, sSetL, eFr, frz, divD, ownL, sRet, outsOf, mkFn, frA, addD, mulD, sAug, eTup, eLst, shs, lenD, absD, eIf, eAnd, eOr, eNot, eCall, callAt, argsOf, argOf, brs, nodupB, wipeE, back, sFor, eIt, rng1, sApp, ePopAt, gtN, sNext, eUn, negD, listD, minD, sPar, settles, okL0, okL1, okL2, okL3, okL4, at0, gtT, gtsC, gtsN, isD, isNonD, sRaise, eOrT, eSl, eoN, eoS, slD, c1, c2, hnil, truD, enumD, e, A__law_cells]
    · rw [if_neg hnil] at hst
      subst hst
      refine ⟨cs, [.sh (.scr ns), .sh (.int 3)], ?_, q1⟩
      generalize List.take 3 ns = S3 at c1 hnil e s1 s2 ⊢
      have hb2 : S3.isEmpty = false := by
        cases S3 with
        | nil => exact absurd rfl hnil
        | cons a l => rfl
      have hb : (S3.map D.int).isEmpty = false := by
        cases S3 with
        | nil => exact absurd rfl hnil
        | cons a l => rfl
      simp [sSeq, sIf, andS, eTest, eOp, Ev.bind, eVar, eC, op2, look, ixD, cmpI, giveAt, bl?, sAsg, eCB, eCons, eNil, looks, intD, modD, setS, settle, sSetL, eFr, frz, divD, ownL, sRet, outsOf, mkFn, frA, addD, mulD, sAug, eTup, eLst, shs, lenD, absD, eIf, eAnd, eOr, eNot, eCall, callAt, argsOf, argOf, brs, nodupB, wipeE, back, sFor, eIt, rng1, sApp, ePopAt, gtN, sNext, eUn, negD, listD, minD, sPar, settles, okL0, okL1, okL2, okL3, okL4, at0, gtT, gtsC, gtsN, isD, isNonD, sRaise, eOrT, eSl, eoN, eoS, slD, c1, c2, hb, hb2, truD, enumD, e, A__law_cells]
  · intro i d ρ hi hP
    obtain ⟨cs, x3, x4, x5, rfl, q1, q2⟩ := hP
    obtain ⟨d', g1, rfl⟩ := enumF_get hi
    rw [List.getElem?_map] at g1
    cases hr : rest[i]? with
    | none => rw [hr] at g1; cases g1
    | some c =>
      rw [hr] at g1
      cases g1
      have hlt := (List.getElem?_eq_some_iff.mp hr).1
      have hne : rest ≠ [] := fun z => by rw [z] at hlt; simp [sSeq, sIf, andS, eTest, eOp, Ev.bind, eVar, eC, op2, look, ixD, cmpI, giveAt, bl?, sAsg, eCB, eCons, eNil, looks, intD, modD, setS, settle, sSetL, eFr, frz, divD, ownL, sRet, outsOf, mkFn, frA, addD, mulD, sAug, eTup, eLst, shs, lenD, absD, eIf, eAnd, eOr, eNot, eCall, callAt, argsOf, argOf, brs, nodupB, wipeE, back, sFor, eIt, rng1, sApp, ePopAt, gtN, sNext, eUn, negD, listD, minD, sPar, settles, okL0, okL1, okL2, okL3, okL4, at0, gtT, gtsC, gtsN, isD, isNonD, sRaise] at hlt
      obtain ⟨ρ1, cs', y3, y4, y5, e1, e2, e3⟩ := cell_step (T := .sh (.scr ns)) (x3 := x3) (x4 := x4) (x5 := x5) (cs := cs) (c := c) (k := 0 + i) (q2 hne) (by omega)
      exact ⟨ρ1, e1, _, .inl e2, cs', y3, y4, y5, rfl, by omega, fun _ => e3⟩
end PM.porterhands_k02_wrong_texts_of_runs

set_option linter.all false
set_option maxRecDepth 100000
set_option maxHeartbeats 4000000
namespace PM.porterhands_k02_wrong_texts_of_runs
open PM
theorem back1o (ρ : Env) (a : D) : ∀ outs, back ρ [.ow a] outs = ρ
  | [] => rfl
  | [_] => rfl
  | _ :: _ :: _ => rfl
def lawE : Ev Sl := eCall f__law_right (eCons (eCall f__law_box (eCons (eVar 1) (eCons (eVar 2) (eNil)))) (eNil))
theorem law_loop {T : Sl} {cs : List Int} (hc : cs.length ≤ 3) : lcT [2] (gtN 2) eYes lawE (rngD 0 cs.length) [] [T, .ow (.lst (cs.map D.int)), .no] = .ok (List.replicate cs.length (.bl true)) [T, .ow (.lst (cs.map D.int)), .no] := by
  have hlr : (rngD 0 cs.length).length = cs.length := by simp [sSeq, sIf, andS, eTest, eOp, Ev.bind, eVar, eC, op2, look, ixD, cmpI, giveAt, bl?, sAsg, eCB, eCons, eNil, looks, intD, modD, setS, settle, sSetL, eFr, frz, divD, ownL, sRet, outsOf, mkFn, frA, addD, mulD, sAug, eTup, eLst, shs, lenD, absD, eIf, eAnd, eOr, eNot, eCall, callAt, argsOf, argOf, brs, nodupB, wipeE, back, sFor, eIt, rng1, sApp, ePopAt, gtN, sNext, eUn, negD, listD, minD, sPar, settles, okL0, okL1, okL2, okL3, okL4, at0, gtT, gtsC, gtsN, isD, isNonD, sRaise, rngD]
  have key := lcT_inv (own := [2]) (g := gtN 2) (m := lawE) (fun i acc ρ => acc = List.replicate i (.bl true) ∧ ρ = [T, .ow (.lst (cs.map D.int)), .no]) (rngD 0 cs.length) 0 [] [T, .ow (.lst (cs.map D.int)), .no] ⟨rfl, rfl⟩ (by rw [hlr]; simp [sSeq, sIf, andS, eTest, eOp, Ev.bind, eVar, eC, op2, look, ixD, cmpI, giveAt, bl?, sAsg, eCB, eCons, eNil, looks, intD, modD, setS, settle, sSetL, eFr, frz, divD, ownL, sRet, outsOf, mkFn, frA, addD, mulD, sAug, eTup, eLst, shs, lenD, absD, eIf, eAnd, eOr, eNot, eCall, callAt, argsOf, argOf, brs, nodupB, wipeE, back, sFor, eIt, rng1, sApp, ePopAt, gtN, sNext, eUn, negD, listD, minD, sPar, settles, okL0, okL1, okL2, okL3, okL4, at0, gtT, gtsC, gtsN, isD, isNonD, sRaise]; omega) ?_
  · obtain ⟨acc, ρ, e, q1, q2⟩ := key
    rw [e, q1, q2, hlr, Nat.zero_add]
  · intro i d acc ρ hi hP
    have hi' : i < cs.length := by
      have := (List.getElem?_eq_some_iff.mp hi).1
      rwa [hlr] at this
    have hd : d = .int (i : Int) := by
      unfold rngD at hi
      rw [List.getElem?_map, List.getElem?_range hi'] at hi
      simpa [sSeq, sIf, andS, eTest, eOp, Ev.bind, eVar, eC, op2, look, ixD, cmpI, giveAt, bl?, sAsg, eCB, eCons, eNil, looks, intD, modD, setS, settle, sSetL, eFr, frz, divD, ownL, sRet, outsOf, mkFn, frA, addD, mulD, sAug, eTup, eLst, shs, lenD, absD, eIf, eAnd, eOr, eNot, eCall, callAt, argsOf, argOf, brs, nodupB, wipeE, back, sFor, eIt, rng1, sApp, ePopAt, gtN, sNext, eUn, negD, listD, minD, sPar, settles, okL0, okL1, okL2, okL3, okL4, at0, gtT, gtsC, gtsN, isD, isNonD, sRaise] using hi.symm
    subst hd
    obtain ⟨rfl, rfl⟩ := hP
    obtain ⟨B, e1, h1⟩ := box' hi' hc
    obtain ⟨outs, e2⟩ := right' h1 (by decide)
    obtain ⟨c0, rfl⟩ := h1.ow
    refine ⟨[T, .ow (.lst (cs.map D.int)), .sh (.int (i : Int))], by simp [sSeq, sIf, andS, eTest, eOp, Ev.bind, eVar, eC, op2, look, ixD, cmpI, giveAt, bl?, sAsg, eCB, eCons, eNil, looks, intD, modD, setS, settle, sSetL, eFr, frz, divD, ownL, sRet, outsOf, mkFn, frA, addD, mulD, sAug, eTup, eLst, shs, lenD, absD, eIf, eAnd, eOr, eNot, eCall, callAt, argsOf, argOf, brs, nodupB, wipeE, back, sFor, eIt, rng1, sApp, ePopAt, gtN, sNext, eUn, negD, listD, minD, sPar, settles, okL0, okL1, okL2, okL3, okL4, at0, gtT, gtsC, gtsN, isD, isNonD, sRaise], .bl true, [T, .ow (.lst (cs.map D.int)), .sh (.int (i : Int))], ?_, by rw [← List.replicate_succ'], rfl⟩
    simp [sSeq, sIf, andS, eTest, eOp, Ev.bind, eVar, eC, op2, look, ixD, cmpI, giveAt, bl?, sAsg, eCB, eCons, eNil, looks, intD, modD, setS, settle, sSetL, eFr, frz, divD, ownL, sRet, outsOf, mkFn, frA, addD, mulD, sAug, eTup, eLst, shs, lenD, absD, eIf, eAnd, eOr, eNot, eCall, callAt, argsOf, argOf, brs, nodupB, wipeE, back, sFor, eIt, rng1, sApp, ePopAt, gtN, sNext, eUn, negD, listD, minD, sPar, settles, okL0, okL1, okL2, okL3, okL4, at0, gtT, gtsC, gtsN, isD, isNonD, sRaise, lawE, e1, e2, back1o]
theorem plain (ns : List Int) (hn : ns.length ≤ 63) : ∃ outs, f_law [.sh (.scr ns)] = .ok (.sh (.bl true)) outs := by
  obtain ⟨cs, o1, e1, hc⟩ := cells' ns hn
  have e := law_loop (T := .sh (.scr ns)) hc
  have r1 := asBls_rep cs.length
  have r2 := all_rep cs.length
  unfold f_law
  simp only [mkFn, List.length_cons, List.length_nil, if_true, List.replicate, b_law, Nat.zero_add]
  rw [show eCall f__law_right (eCons (eCall f__law_box (eCons (eVar 1) (eCons (eVar 2) (eNil)))) (eNil)) = lawE from rfl]
  generalize lawE = we at e ⊢
  generalize hg : gtN 2 = gg at e ⊢
  generalize hR : List.replicate cs.length (D.bl true) = R at e r1
  generalize hR2 : List.replicate cs.length true = R2 at r1 r2
  obtain ⟨m, hm⟩ : ∃ m, cs.length = m := ⟨_, rfl⟩
  rw [hm] at e
  have hb1 : (-100000 : Int) ≤ (m : Int) := by omega
  have hb2 : (m : Int) ≤ 100000 := by omega
  simp [sSeq, sIf, andS, eTest, eOp, Ev.bind, eVar, eC, op2, look, ixD, cmpI, giveAt, bl?, sAsg, eCB, eCons, eNil, looks, intD, modD, setS, settle, sSetL, eFr, frz, divD, ownL, sRet, outsOf, mkFn, frA, addD, mulD, sAug, eTup, eLst, shs, lenD, absD, eIf, eAnd, eOr, eNot, eCall, callAt, argsOf, argOf, brs, nodupB, wipeE, back, sFor, eIt, rng1, sApp, ePopAt, gtN, sNext, eUn, negD, listD, minD, sPar, settles, okL0, okL1, okL2, okL3, okL4, at0, gtT, gtsC, gtsN, isD, isNonD, sRaise, e1, back2, hm, hb1, hb2, eComp, sharedAt, restoreE, e, allD, r1, r2, A_law]
end PM.porterhands_k02_wrong_texts_of_runs

open PySem PySem.W PyProof.Rows
set_option maxHeartbeats 0 in
theorem PySem.Challenge.cw_porterhands_k02_wrong_texts_of_runs_holds : PySem.Challenge.rw_porterhands_k02_wrong_texts_of_runs.Holds := by
  w_on; o_law; k_head; (case hw => w_witness2)
  k_fill
  refine L2.walk_of (l := PySem.Challenge.rw_porterhands_k02_wrong_texts_of_runs) (n := 63) (k := 12) (x := "_law_script") (CX := fun w => L2.CX PySem.Challenge.rw_porterhands_k02_wrong_texts_of_runs.prog w) (sp := fun w => PM.spLaw _ 63) rfl (by decide) rfl ⟨rfl, by decide, by decide⟩ (fun w h Y => PySem.W.kIn_of Y) ?F (fun _ _ a ns hl _ hS => ⟨a, ns, rfl, hl, hS, fun _ => rfl⟩) (fun _ _ _ _ _ h => PM.cx_no h)
  case F =>
    intro w mg fa h KX G hmg
    refine' PM.porterhands_k02_wrong_texts_of_runs.all_mk KX G hmg ?aC_BadText ?xL_BadText ?sa_BadText ?ga_BadText ?gg_BadText ?eC_BadText ?tC_BadText ?kC_BadText ?hC_BadText ?iC_BadText ?tI_BadText ?lI_BadText ?cI_BadText ?kI_BadText ?no_BadText_piece ?sC_BadText_BadText ?a0 ?l0 ?c0 ?k0 ?a1 ?l1 ?c1 ?k1 ?a2 ?l2 ?c2 ?k2 ?a3 ?l3 ?c3 ?k3 ?a4 ?l4 ?c4 ?k4 ?a5 ?l5 ?c5 ?k5 ?a6 ?l6 ?c6 ?k6 ?a7 ?l7 ?c7 ?k7 ?a8 ?l8 ?c8 ?k8 ?a9 ?l9 ?c9 ?k9 ?a10 ?l10 ?c10 ?k10 ?a11 ?l11 ?c11 ?k11 ?a12 ?l12 ?c12 ?k12 ?a13 ?l13 ?c13 ?k13 ?a14 ?l14 ?c14 ?k14 ?a15 ?l15 ?c15 ?k15 ?a16 ?l16 ?c16 ?k16 ?a17 ?l17 ?c17 ?k17 ?a18 ?l18 ?c18 ?k18 ?z_abs ?z_all ?z_bool ?z_enumerate ?z_int ?z_isinstance ?z_len ?z_list ?z_min ?z_range ?z_str ?z_tuple ?z_zip ?q_LETTERS ?q_DIGITS ?q_MOST_LETTERS ?q_NOTHING ?q_BETWEEN ?q_BLANK ?q_PAIR PM.porterhands_k02_wrong_texts_of_runs.plain
    (case aC_BadText => k_is)
    (case xL_BadText => k_is)
    (case sa_BadText => k_is)
    (case ga_BadText => k_is)
    (case gg_BadText => k_is)
    (case eC_BadText => k_is)
    (case tC_BadText => k_is)
    (case kC_BadText => k_is)
    (case hC_BadText => k_is)
    (case iC_BadText => k_is)
    (case tI_BadText => k_is)
    (case lI_BadText => k_is)
    (case cI_BadText => k_is)
    (case kI_BadText => k_is)
    (case no_BadText_piece => k_is)
    (case sC_BadText_BadText => first | rfl | k_is)
    (case a0 => k_is)
    (case l0 => k_is)
    (case c0 => k_is)
    (case k0 => k_is)
    (case a1 => k_is)
    (case l1 => k_is)
    (case c1 => k_is)
    (case k1 => k_is)
    (case a2 => k_is)
    (case l2 => k_is)
    (case c2 => k_is)
    (case k2 => k_is)
    (case a3 => k_is)
    (case l3 => k_is)
    (case c3 => k_is)
    (case k3 => k_is)
    (case a4 => k_is)
    (case l4 => k_is)
    (case c4 => k_is)
    (case k4 => k_is)
    (case a5 => k_is)
    (case l5 => k_is)
    (case c5 => k_is)
    (case k5 => k_is)
    (case a6 => k_is)
    (case l6 => k_is)
    (case c6 => k_is)
    (case k6 => k_is)
    (case a7 => k_is)
    (case l7 => k_is)
    (case c7 => k_is)
    (case k7 => k_is)
    (case a8 => k_is)
    (case l8 => k_is)
    (case c8 => k_is)
    (case k8 => k_is)
    (case a9 => k_is)
    (case l9 => k_is)
    (case c9 => k_is)
    (case k9 => k_is)
    (case a10 => k_is)
    (case l10 => k_is)
    (case c10 => k_is)
    (case k10 => k_is)
    (case a11 => k_is)
    (case l11 => k_is)
    (case c11 => k_is)
    (case k11 => k_is)
    (case a12 => k_is)
    (case l12 => k_is)
    (case c12 => k_is)
    (case k12 => k_is)
    (case a13 => k_is)
    (case l13 => k_is)
    (case c13 => k_is)
    (case k13 => k_is)
    (case a14 => k_is)
    (case l14 => k_is)
    (case c14 => k_is)
    (case k14 => k_is)
    (case a15 => k_is)
    (case l15 => k_is)
    (case c15 => k_is)
    (case k15 => k_is)
    (case a16 => k_is)
    (case l16 => k_is)
    (case c16 => k_is)
    (case k16 => k_is)
    (case a17 => k_is)
    (case l17 => k_is)
    (case c17 => k_is)
    (case k17 => k_is)
    (case a18 => k_is)
    (case l18 => k_is)
    (case c18 => k_is)
    (case k18 => k_is)
    (case z_abs => k_is)
    (case z_all => k_is)
    (case z_bool => k_is)
    (case z_enumerate => k_is)
    (case z_int => k_is)
    (case z_isinstance => k_is)
    (case z_len => k_is)
    (case z_list => k_is)
    (case z_min => k_is)
    (case z_range => k_is)
    (case z_str => k_is)
    (case z_tuple => k_is)
    (case z_zip => k_is)
    (case q_LETTERS => k_is)
    (case q_DIGITS => k_is)
    (case q_MOST_LETTERS => k_is)
    (case q_NOTHING => k_is)
    (case q_BETWEEN => k_is)
    (case q_BLANK => k_is)
    (case q_PAIR => k_is)
