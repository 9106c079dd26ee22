import PyProof.Rows.All
import HandS.ForMost
import HandS.Exc
import HandS.ExcOwn
import HandS.WordsExc
import HandS.CallSlots
import HandS.TryOnly
import HandS.IsInst
import HandS.Flow
import HandS.Style
import HandS.Deep
import HandS.TupAny
import HandS.TupMul
import HandS.Wide
import HandS.ExcInit
import HandS.ExcValue
import HandS.Walk
import KE.KExcSuper
import KE.KSuper
import KE.KExcIs
import HandS.HeadHook1
import HandS.HeadHook4
import HandS.HeadEnd
import HandS.Head0
import HandS.Head1
import HandS.Head2
import PySem.Challenge.RW_waychosen_k00_errors
set_option Elab.async false
set_option linter.all false
set_option maxRecDepth 100000
section
set_option maxHeartbeats 2000000
/-! MpCore: clean data, the abstract heap as a list of objects, and how they stand in the hand layer's heap. -/
namespace MP
open PySem L2

/-- clean data: what is not changed any more is a value (tuples, frozen lists); what may change is a number of the abstract heap -/
inductive D where
  | non | bl (b : Bool) | int (i : Int) | str (s : Str) | tup (xs : List D) | vls (xs : List D) | ref (l : Nat)
  /-- an error of an own class as a value: by the class's name; with one field of its own -/
  | exn (c : Str) | exf (c f : Str) (x : D)
  /-- the script: a list that nobody changes -/
  | rls (xs : List D)
  deriving Inhabited
/-- an object of the abstract heap -/
inductive Ob where
  | lst (xs : List D) | rol (xs : List D) | dct (kvs : List (Key × D)) | dlk (kvs : List (Key × D)) | dead
abbrev AH := List Ob
abbrev En := List (Option D)
/-- the addresses of the numbers; those of others that are not to be met -/
structure Ma where
  own : List (Option Addr)
  out : Addr → Prop
/-- a raised error: its class by name -/
structure Exn where
  cls : Str
inductive Out (α : Type) where
  | val (a : α) | exc (e : Exn)
abbrev Mo (α : Type) := Option (Out α × AH)
abbrev DE (α : Type) := En → AH → Mo α
def bE {α β : Type} (x : Mo α) (k : α → AH → Mo β) : Mo β := match x with
  | none => none
  | some (.exc e, h) => some (.exc e, h)
  | some (.val a, h) => k a h

def NotOwn (m : Ma) (a : Addr) : Prop := ∀ l : Nat, m.own[l]? ≠ some (some a)
def Free (m : Ma) (a : Addr) : Prop := NotOwn m a ∧ ¬ m.out a
def Ma.push (m : Ma) (p : Addr) : Ma := ⟨m.own ++ [some p], m.out⟩
/-- a list that nobody of ours changes -/
def VL (m : Ma) (H : Hp) (a : Addr) (xs : List V) : Prop := H a = some (.lst xs) ∧ Free m a
theorem VL.sq {K : PySem.W.Frag} {m : Ma} {H : Hp} {a : Addr} {xs : List V} (h : VL m H a xs) : SqL K H a xs := .inl (.inl h.1)

/-- the script's place -/
def RL (K : PySem.W.Frag) (m : Ma) (H : Hp) (a : Addr) (vs : List V) : Prop :=
  (∃ o, H a = some (.frz o (.lst vs)) ∧ Free m a) ∨ ∃ (o : Obj) (its : Array Value) (n : Nat), K.lookup a = some o ∧ o.cls = .type "list" ∧ o.dict = none ∧ o.data = .seq its n ∧ its.size ≤ sizeLine ∧ Vals vs its.toList
theorem RL.sq {K : PySem.W.Frag} {m : Ma} {H : Hp} {a : Addr} {vs : List V} (h : RL K m H a vs) : SqL K H a vs := h.elim (fun ⟨o, h, _⟩ => .inl (.inr ⟨o, h⟩)) .inr
theorem RL.of {K : PySem.W.Frag} {m : Ma} {H : Hp} {a : Addr} {vs : List V} (f : ∀ o, H a = some o → Free m a) (n : H a ≠ some (.lst vs)) (h : SqL K H a vs) : RL K m H a vs := by
  rcases h with (h | ⟨o, h⟩) | h
  · exact absurd h n
  · exact .inl ⟨o, h, f _ h⟩
  · exact .inr h
mutual
inductive DV (K : PySem.W.Frag) (m : Ma) (H : Hp) : D → V → Prop
  | non : DV K m H .non .non
  | bl (b : Bool) : DV K m H (.bl b) (.bl b)
  | int (i : Int) : DV K m H (.int i) (.int i)
  | str (s : Str) : DV K m H (.str s) (.str s)
  | tup {a : Addr} {xs : List D} {vs : List V} : SqT K H a vs → DVs K m H xs vs → DV K m H (.tup xs) (.ref a)
  | vls {a : Addr} {xs : List D} {vs : List V} : VL m H a vs → DVs K m H xs vs → DV K m H (.vls xs) (.ref a)
  | ref {l : Nat} {a : Addr} : m.own[l]? = some (some a) → DV K m H (.ref l) (.ref a)
  | dead {l : Nat} {v : V} : m.own[l]? = some none → DV K m H (.ref l) v
  | exn {c : Str} {C a : Addr} : PySem.W.nsIn K mainGlobals c = some (some (.ref C)) → H a = some (ExO (.ref C) a) → Free m a → DV K m H (.exn c) (.ref a)
  | exf {c f : Str} {C a d : Addr} {x : D} {v : V} : PySem.W.nsIn K mainGlobals c = some (some (.ref C)) → H a = some (exo a C (some d)) → H d = some (exd d [(f, v)]) → Free m a → Free m d → DV K m H x v → DV K m H (.exf c f x) (.ref a)
  | rls {a : Addr} {xs : List D} {vs : List V} : RL K m H a vs → DVs K m H xs vs → DV K m H (.rls xs) (.ref a)
inductive DVs (K : PySem.W.Frag) (m : Ma) (H : Hp) : List D → List V → Prop
  | nil : DVs K m H [] []
  | cons {d : D} {v : V} {ds : List D} {vs : List V} : DV K m H d v → DVs K m H ds vs → DVs K m H (d :: ds) (v :: vs)
end

/-- what every step keeps -/
structure Ext (K : PySem.W.Frag) (H : Hp) (m : Ma) (H' : Hp) (m' : Ma) : Prop where
  mm : ∀ (l : Nat) x, m.own[l]? = some x → m'.own[l]? = some x ∨ m'.own[l]? = some none
  ou : ∀ a, m'.out a → m.out a ∨ H a = none
  ol : ∀ a, m.out a → m'.out a
  fr : ∀ a o, H a = some o → NotOwn m a → H' a = some o
  nw : ∀ (l : Nat) a, m'.own[l]? = some (some a) → m.own[l]? = some (some a) ∨ H a = none
  th : ∀ a o, H a = some o → ∃ o', H' a = some o'
  sq : ∀ a vs, SqT K H a vs → SqT K H' a vs
/-- the same, but for what is hidden -/
structure ExW (K : PySem.W.Frag) (H : Hp) (m : Ma) (H' : Hp) (m' : Ma) : Prop where
  mm : ∀ (l : Nat) x, m.own[l]? = some x → m'.own[l]? = some x ∨ m'.own[l]? = some none
  ou : ∀ a, m'.out a → m.out a ∨ H a = none
  ol : ∀ a, m.out a → m'.out a
  fr : ∀ a o, H a = some o → Free m a → H' a = some o
  nw : ∀ (l : Nat) a, m'.own[l]? = some (some a) → m.own[l]? = some (some a) ∨ H a = none
  th : ∀ a o, H a = some o → ∃ o', H' a = some o'
  sq : ∀ a vs, SqT K H a vs → SqT K H' a vs
section
variable {K : PySem.W.Frag} {H H1 H2 : Hp} {m m1 m2 : Ma}
theorem Ext.toW (e : Ext K H m H1 m1) : ExW K H m H1 m1 := ⟨e.mm, e.ou, e.ol, fun a o h f => e.fr a o h f.1, e.nw, e.th, e.sq⟩
theorem ExW.notOwn (e : ExW K H m H1 m1) {a : Addr} {o : HO} (h : H a = some o) (f : NotOwn m a) : NotOwn m1 a := fun l q => by
  rcases e.nw l a q with z | z
  · exact f l z
  · rw [h] at z; cases z
theorem ExW.free (e : ExW K H m H1 m1) {a : Addr} {o : HO} (h : H a = some o) (f : Free m a) : Free m1 a := ⟨e.notOwn h f.1, fun z => (e.ou a z).elim f.2 fun q => by rw [h] at q; cases q⟩
theorem ExW.back (e : ExW K H m H1 m1) {a : Addr} (h : H1 a = none) : H a = none := by
  cases q : H a with
  | none => rfl
  | some o =>
    obtain ⟨o', z⟩ := e.th a o q
    rw [h] at z; cases z
theorem ExW.trans (e : ExW K H m H1 m1) (f : ExW K H1 m1 H2 m2) : ExW K H m H2 m2 where
  mm := fun l x h => by
    rcases e.mm l x h with q | q
    · exact f.mm l x q
    · rcases f.mm l _ q with z | z <;> exact .inr z
  ou := fun a h => (f.ou a h).elim (fun q => e.ou a q) fun q => .inr (e.back q)
  ol := fun a h => f.ol a (e.ol a h)
  fr := fun a o h q => f.fr a o (e.fr a o h q) (e.free h q)
  nw := fun l a h => by
    rcases f.nw l a h with q | q
    · exact e.nw l a q
    · exact .inr (e.back q)
  th := fun a o h => by
    obtain ⟨o', q⟩ := e.th a o h
    exact f.th a o' q
  sq := fun a vs h => f.sq a vs (e.sq a vs h)
theorem Ext.refl : Ext K H m H m := ⟨fun _ _ h => .inl h, fun _ h => .inl h, fun _ h => h, fun _ _ h _ => h, fun _ _ h => .inl h, fun _ o h => ⟨o, h⟩, fun _ _ h => h⟩
theorem Ext.notOwn (e : Ext K H m H1 m1) {a : Addr} {o : HO} (h : H a = some o) (f : NotOwn m a) : NotOwn m1 a := fun l q => by
  rcases e.nw l a q with z | z
  · exact f l z
  · rw [h] at z; cases z
theorem Ext.free (e : Ext K H m H1 m1) {a : Addr} {o : HO} (h : H a = some o) (f : Free m a) : Free m1 a := ⟨e.notOwn h f.1, fun z => (e.ou a z).elim f.2 fun q => by rw [h] at q; cases q⟩
theorem Ext.back (e : Ext K H m H1 m1) {a : Addr} (h : H1 a = none) : H a = none := by
  cases q : H a with
  | none => rfl
  | some o =>
    obtain ⟨o', z⟩ := e.th a o q
    rw [h] at z; cases z
theorem Ext.trans (e : Ext K H m H1 m1) (f : Ext K H1 m1 H2 m2) : Ext K H m H2 m2 where
  mm := fun l x h => by
    rcases e.mm l x h with q | q
    · exact f.mm l x q
    · rcases f.mm l _ q with z | z <;> exact .inr z
  ou := fun a h => (f.ou a h).elim (fun q => e.ou a q) fun q => .inr (e.back q)
  ol := fun a h => f.ol a (e.ol a h)
  fr := fun a o h q => f.fr a o (e.fr a o h q) (e.notOwn h q)
  nw := fun l a h => by
    rcases f.nw l a h with q | q
    · exact e.nw l a q
    · exact .inr (e.back q)
  th := fun a o h => by
    obtain ⟨o', q⟩ := e.th a o h
    exact f.th a o' q
  sq := fun a vs h => f.sq a vs (e.sq a vs h)
theorem VL.monoW {a : Addr} {xs : List V} (e : ExW K H m H1 m1) (h : VL m H a xs) : VL m1 H1 a xs := ⟨e.fr _ _ h.1 h.2, e.free h.1 h.2⟩
theorem RL.monoW {a : Addr} {xs : List V} (e : ExW K H m H1 m1) (h : RL K m H a xs) : RL K m1 H1 a xs := h.elim (fun ⟨o, h, f⟩ => .inl ⟨o, e.fr _ _ h f, e.free h f⟩) .inr
theorem VL.mono {a : Addr} {xs : List V} (e : Ext K H m H1 m1) (h : VL m H a xs) : VL m1 H1 a xs := ⟨e.fr _ _ h.1 h.2.1, e.free h.1 h.2⟩
mutual
theorem DV.monoW (e : ExW K H m H1 m1) : ∀ {d : D} {v : V}, DV K m H d v → DV K m1 H1 d v
  | _, _, .non => .non
  | _, _, .bl b => .bl b
  | _, _, .int i => .int i
  | _, _, .str s => .str s
  | _, _, .tup h t => .tup (e.sq _ _ h) (DVs.monoW e t)
  | _, _, .vls h t => .vls (h.monoW e) (DVs.monoW e t)
  | _, _, .ref h => (e.mm _ _ h).elim .ref .dead
  | _, _, .dead h => (e.mm _ _ h).elim .dead .dead
  | _, _, .exn g h f => .exn g (e.fr _ _ h f) (e.free h f)
  | _, _, .exf g h k f f' t => .exf g (e.fr _ _ h f) (e.fr _ _ k f') (e.free h f) (e.free k f') (DV.monoW e t)
  | _, _, .rls h t => .rls (h.monoW e) (DVs.monoW e t)
theorem DVs.monoW (e : ExW K H m H1 m1) : ∀ {d : List D} {v : List V}, DVs K m H d v → DVs K m1 H1 d v
  | _, _, .nil => .nil
  | _, _, .cons h t => .cons (DV.monoW e h) (DVs.monoW e t)
end
theorem DV.mono (e : Ext K H m H1 m1) {d : D} {v : V} (h : DV K m H d v) : DV K m1 H1 d v := h.monoW e.toW
theorem DVs.mono (e : Ext K H m H1 m1) {d : List D} {v : List V} (h : DVs K m H d v) : DVs K m1 H1 d v := h.monoW e.toW
theorem DVs.length : ∀ {ds : List D} {vs : List V}, DVs K m H ds vs → ds.length = vs.length
  | _, _, .nil => rfl
  | _, _, .cons _ t => by rw [List.length_cons, List.length_cons, DVs.length t]
theorem DVs.get : ∀ {ds : List D} {vs : List V} {i : Nat} {d : D}, DVs K m H ds vs → ds[i]? = some d → ∃ v, vs[i]? = some v ∧ DV K m H d v
  | _, _, _, _, .nil, e => by simp at e
  | _, _, 0, _, .cons r _, e => by simp at e; subst e; exact ⟨_, rfl, r⟩
  | _, _, i + 1, d, .cons _ t, e => by
    obtain ⟨u, h1, h2⟩ := DVs.get (i := i) (d := d) t (by simpa using e)
    exact ⟨u, by simpa using h1, h2⟩
theorem DVs.append : ∀ {xs ys : List D} {us ws : List V}, DVs K m H xs us → DVs K m H ys ws → DVs K m H (xs ++ ys) (us ++ ws)
  | _, _, _, _, .nil, s => s
  | _, _, _, _, .cons r t, s => .cons r (DVs.append t s)
theorem DVs.take : ∀ {xs : List D} {us : List V} (n : Nat), DVs K m H xs us → DVs K m H (xs.take n) (us.take n)
  | _, _, 0, _ => .nil
  | _, _, _ + 1, .nil => .nil
  | _, _, n + 1, .cons r t => .cons r (DVs.take n t)
theorem DVs.drop : ∀ {xs : List D} {us : List V} (n : Nat), DVs K m H xs us → DVs K m H (xs.drop n) (us.drop n)
  | _, _, 0, r => r
  | _, _, _ + 1, .nil => .nil
  | _, _, n + 1, .cons _ t => DVs.drop n t
theorem DVs.set {x : D} {u : V} (r : DV K m H x u) : ∀ {xs : List D} {us : List V} (i : Nat), DVs K m H xs us → DVs K m H (xs.set i x) (us.set i u)
  | _, _, _, .nil => .nil
  | _, _, 0, .cons _ t => .cons r t
  | _, _, i + 1, .cons q t => .cons q (DVs.set r i t)
theorem DVs.eraseIdx : ∀ {xs : List D} {us : List V} (i : Nat), DVs K m H xs us → DVs K m H (xs.eraseIdx i) (us.eraseIdx i)
  | _, _, _, .nil => .nil
  | _, _, 0, .cons _ t => t
  | _, _, i + 1, .cons q t => .cons q (DVs.eraseIdx i t)
theorem DVs.dropLast : ∀ {xs : List D} {us : List V}, DVs K m H xs us → DVs K m H xs.dropLast us.dropLast
  | _, _, .nil => .nil
  | _, _, .cons _ .nil => .nil
  | _, _, .cons q (.cons r t) => .cons q (DVs.dropLast (.cons r t))
theorem DVs.rep {xs : List D} {us : List V} (h : DVs K m H xs us) : ∀ k : Nat, DVs K m H (List.replicate k xs).flatten (List.replicate k us).flatten
  | 0 => .nil
  | k + 1 => by
    rw [List.replicate_succ, List.replicate_succ, List.flatten_cons, List.flatten_cons]
    exact h.append (DVs.rep h k)
theorem DVs.reverse {xs : List D} {us : List V} (h : DVs K m H xs us) : DVs K m H xs.reverse us.reverse := by
  induction xs generalizing us with
  | nil => cases h; exact .nil
  | cons x r ih =>
    cases h with
    | cons q t =>
      rw [List.reverse_cons, List.reverse_cons]
      exact (ih t).append (.cons q .nil)
end

inductive KVs (K : PySem.W.Frag) (m : Ma) (H : Hp) : List (Key × D) → List (Key × V) → Prop
  | nil : KVs K m H [] []
  | cons {k : Key} {d : D} {v : V} {ds : List (Key × D)} {vs : List (Key × V)} : DV K m H d v → KVs K m H ds vs → KVs K m H ((k, d) :: ds) ((k, v) :: vs)
/-- the object at a -/
def OV (K : PySem.W.Frag) (m : Ma) (H : Hp) (a : Addr) : Ob → Prop
  | .lst xs => ∃ vs, H a = some (.lst vs) ∧ DVs K m H xs vs
  | .rol xs => ∃ o vs, H a = some (.frz o (.lst vs)) ∧ DVs K m H xs vs
  | .dct kvs => ∃ ws, H a = some (.dK ws) ∧ KVs K m H kvs ws
  | .dlk kvs => ∃ o ws, H a = some (.frz o (.dK ws)) ∧ KVs K m H kvs ws
  | .dead => False
structure Obs (K : PySem.W.Frag) (H : Hp) (m : Ma) (hp : AH) : Prop where
  len : m.own.length = hp.length
  ot : ∀ a, m.out a → ∃ o, H a = some o
  inj : ∀ (l l' : Nat) (a : Addr), m.own[l]? = some (some a) → m.own[l']? = some (some a) → l = l'
  obj : ∀ (l : Nat) (a : Addr), m.own[l]? = some (some a) → ∃ o, hp[l]? = some o ∧ OV K m H a o
  adr : ∀ (l : Nat) (o : Ob), hp[l]? = some o → o ≠ .dead → ∃ a, m.own[l]? = some (some a)
  dj : ∀ (l : Nat) (a : Addr), m.own[l]? = some (some a) → ¬ m.out a
inductive EnV (K : PySem.W.Frag) (m : Ma) (H : Hp) : En → St → Prop
  | nil : EnV K m H [] []
  | yes {d : D} {v : V} {env : En} {σ : St} : DV K m H d v → EnV K m H env σ → EnV K m H (some d :: env) (some v :: σ)
  | no {x : Option V} {env : En} {σ : St} : EnV K m H env σ → EnV K m H (none :: env) (x :: σ)
structure Stt (K : PySem.W.Frag) (H : Hp) (m : Ma) (env : En) (hp : AH) (σ : St) : Prop where
  en : EnV K m H env σ
  ob : Obs K H m hp
section
variable {K : PySem.W.Frag} {H H1 H2 : Hp} {m m1 m2 : Ma} {env : En} {hp hp1 : AH} {σ : St}
theorem KVs.mono (e : Ext K H m H1 m1) : ∀ {d : List (Key × D)} {v : List (Key × V)}, KVs K m H d v → KVs K m1 H1 d v
  | _, _, .nil => .nil
  | _, _, .cons h t => .cons (h.mono e) (KVs.mono e t)
theorem EnV.mono (e : Ext K H m H1 m1) : ∀ {env : En} {σ : St}, EnV K m H env σ → EnV K m1 H1 env σ
  | _, _, .nil => .nil
  | _, _, .yes h t => .yes (h.mono e) (EnV.mono e t)
  | _, _, .no t => .no (EnV.mono e t)
theorem EnV.get : ∀ {env : En} {σ : St} {i : Nat} {d : D}, EnV K m H env σ → env[i]? = some (some d) → ∃ v, σ[i]? = some (some v) ∧ DV K m H d v
  | _, _, _, _, .nil, e => by simp at e
  | _, _, 0, _, .yes r _, e => by simp at e; subst e; exact ⟨_, rfl, r⟩
  | _, _, 0, _, .no _, e => by simp at e
  | _, _, i + 1, d, .yes _ t, e => by
    obtain ⟨u, h1, h2⟩ := EnV.get (i := i) (d := d) t (by simpa using e)
    exact ⟨u, by simpa using h1, h2⟩
  | _, _, i + 1, d, .no t, e => by
    obtain ⟨u, h1, h2⟩ := EnV.get (i := i) (d := d) t (by simpa using e)
    exact ⟨u, by simpa using h1, h2⟩
theorem EnV.set {d : D} {v : V} (r : DV K m H d v) : ∀ {env : En} {σ : St} (i : Nat), EnV K m H env σ → EnV K m H (env.set i (some d)) (σ.set i (some v))
  | _, _, _, .nil => .nil
  | _, _, 0, .yes _ t => .yes r t
  | _, _, 0, .no t => .yes r t
  | _, _, i + 1, .yes q t => .yes q (EnV.set r i t)
  | _, _, i + 1, .no t => .no (EnV.set r i t)
theorem EnV.unset : ∀ {env : En} {σ : St} (i : Nat), EnV K m H env σ → EnV K m H (env.set i none) (σ.set i none)
  | _, _, _, .nil => .nil
  | _, _, 0, .yes _ t => .no t
  | _, _, 0, .no t => .no t
  | _, _, i + 1, .yes q t => .yes q (EnV.unset i t)
  | _, _, i + 1, .no t => .no (EnV.unset i t)
def wipeE (env : En) : List Nat → En
  | [] => env
  | v :: vs => (wipeE env vs).set v none
theorem EnV.wipe (h : EnV K m H env σ) : ∀ vs : List Nat, EnV K m H (wipeE env vs) (wipe σ vs)
  | [] => h
  | v :: vs => (EnV.wipe h vs).unset v
/-- the same heap, moved along: only H and m grew -/
theorem Stt.step (s : Stt K H m env hp σ) (e : Ext K H m H1 m1) (o : Obs K H1 m1 hp1) : Stt K H1 m1 env hp1 σ := ⟨s.en.mono e, o⟩
theorem Obs.free (o : Obs K H m hp) {a : Addr} (h : H a = none) : Free m a := ⟨fun l q => by
  obtain ⟨b, _, z⟩ := o.obj l a q
  cases b with
  | lst xs => obtain ⟨_, z, _⟩ := z; rw [h] at z; cases z
  | rol xs => obtain ⟨_, _, z, _⟩ := z; rw [h] at z; cases z
  | dct xs => obtain ⟨_, z, _⟩ := z; rw [h] at z; cases z
  | dlk xs => obtain ⟨_, _, z, _⟩ := z; rw [h] at z; cases z
  | dead => exact z.elim, fun q => by
  obtain ⟨u, z⟩ := o.ot a q
  rw [h] at z; cases z⟩
theorem upd_th {H : Hp} {p : Addr} {o : HO} : ∀ a u, H a = some u → ∃ o', upd H p o a = some o' := fun a u h => by
  by_cases e : a = p
  · exact ⟨o, by rw [e, upd_same]⟩
  · exact ⟨u, by rw [upd_ne e]; exact h⟩
theorem sqT_new {H : Hp} {p : Addr} {o : HO} (hp : H p = none) (a : Addr) (vs : List V) (h : SqT K H a vs) : SqT K (upd H p o) a vs := by
  rcases h with (h | ⟨ob, h⟩) | h
  · exact .inl (.inl (by rw [upd_ne (ne_of_none h hp)]; exact h))
  · exact .inl (.inr ⟨ob, by rw [upd_ne (ne_of_none h hp)]; exact h⟩)
  · exact .inr h
/-- a new object that we do not number -/
theorem Ext.laid {p : Addr} {o : HO} (hn : H p = none) : Ext K H m (upd H p o) m :=
  ⟨fun _ _ h => .inl h, fun _ h => .inl h, fun _ h => h, fun a u h _ => by rw [upd_ne (ne_of_none h hn)]; exact h, fun _ _ h => .inl h, upd_th, sqT_new hn⟩
theorem OV.mono {a : Addr} {b : Ob} (e : Ext K H m H1 m1) (hk : H1 a = H a) (h : OV K m H a b) : OV K m1 H1 a b := by
  cases b with
  | lst xs => obtain ⟨vs, z, r⟩ := h; exact ⟨vs, by rw [hk]; exact z, r.mono e⟩
  | rol xs => obtain ⟨o, vs, z, r⟩ := h; exact ⟨o, vs, by rw [hk]; exact z, r.mono e⟩
  | dct xs => obtain ⟨vs, z, r⟩ := h; exact ⟨vs, by rw [hk]; exact z, r.mono e⟩
  | dlk xs => obtain ⟨o, vs, z, r⟩ := h; exact ⟨o, vs, by rw [hk]; exact z, r.mono e⟩
  | dead => exact h
theorem OV.there {a : Addr} {b : Ob} (h : OV K m H a b) : ∃ o, H a = some o := by
  cases b with
  | lst xs => obtain ⟨vs, z, _⟩ := h; exact ⟨_, z⟩
  | rol xs => obtain ⟨o, vs, z, _⟩ := h; exact ⟨_, z⟩
  | dct xs => obtain ⟨vs, z, _⟩ := h; exact ⟨_, z⟩
  | dlk xs => obtain ⟨o, vs, z, _⟩ := h; exact ⟨_, z⟩
  | dead => exact h.elim
theorem Obs.laid {p : Addr} {o : HO} (ob : Obs K H m hp) (hn : H p = none) : Obs K (upd H p o) m hp :=
  ⟨ob.len, fun a h => (ob.ot a h).elim fun o z => upd_th a o z, ob.inj, fun l a h => by
    obtain ⟨b, hb, z⟩ := ob.obj l a h
    obtain ⟨u, hu⟩ := z.there
    exact ⟨b, hb, z.mono (Ext.laid hn) (upd_ne (ne_of_none hu hn))⟩, ob.adr, ob.dj⟩
/-- a new object with a number -/
theorem Ext.alloc {p : Addr} {o : HO} (hn : H p = none) : Ext K H m (upd H p o) (m.push p) where
  ou := fun _ h => .inl h
  ol := fun _ h => h
  mm := fun l x h => .inl (by unfold Ma.push; rw [List.getElem?_append_left (List.getElem?_eq_some_iff.mp h).1]; exact h)
  fr := fun a u h _ => by rw [upd_ne (ne_of_none h hn)]; exact h
  nw := fun l a h => by
    unfold Ma.push at h
    by_cases hl : l < m.own.length
    · rw [List.getElem?_append_left hl] at h
      exact .inl h
    · rw [List.getElem?_append_right (by omega)] at h
      have : l - m.own.length = 0 := by
        have := (List.getElem?_eq_some_iff.mp h).1
        simp at this; omega
      rw [this] at h
      have e : p = a := by simpa using h
      exact .inr (by rw [← e]; exact hn)
  th := upd_th
  sq := sqT_new hn
theorem Obs.alloc {p : Addr} {o : HO} {b : Ob} (ob : Obs K H m hp) (hn : H p = none) (hb : OV K (m.push p) (upd H p o) p b) : Obs K (upd H p o) (m.push p) (hp ++ [b]) where
  dj := fun l a h => by
    unfold Ma.push at h
    by_cases hl : l < m.own.length
    · rw [List.getElem?_append_left hl] at h
      exact ob.dj l a h
    · rw [List.getElem?_append_right (by omega)] at h
      have h1 := (List.getElem?_eq_some_iff.mp h).1
      have : l - m.own.length = 0 := by simp at h1; omega
      rw [this] at h
      have e : p = a := by simpa using h
      subst e
      exact (ob.free hn).2
  len := by unfold Ma.push; rw [List.length_append, List.length_append, ob.len]; rfl
  ot := fun a h => (ob.ot a h).elim fun o z => upd_th a o z
  inj := fun l l' a h h' => by
    have f := (ob.free hn).1
    have last : ∀ l : Nat, (m.own ++ [some p])[l]? = some (some a) → (m.own[l]? = some (some a) ∧ a ≠ p) ∨ (l = m.own.length ∧ a = p) := fun l h => by
      by_cases hl : l < m.own.length
      · rw [List.getElem?_append_left hl] at h
        exact .inl ⟨h, fun e => f l (by rw [← e]; exact h)⟩
      · rw [List.getElem?_append_right (by omega)] at h
        have h1 := (List.getElem?_eq_some_iff.mp h).1
        have : l - m.own.length = 0 := by simp at h1; omega
        rw [this] at h
        exact .inr ⟨by omega, by simpa using h.symm⟩
    rcases last l h with ⟨a1, a2⟩ | ⟨a1, a2⟩ <;> rcases last l' h' with ⟨b1, b2⟩ | ⟨b1, b2⟩
    · exact ob.inj l l' a a1 b1
    · exact absurd b2 a2
    · exact absurd a2 b2
    · rw [a1, b1]
  obj := fun l a h => by
    unfold Ma.push at h
    by_cases hl : l < m.own.length
    · rw [List.getElem?_append_left hl] at h
      obtain ⟨c, hc, z⟩ := ob.obj l a h
      obtain ⟨u, hu⟩ := z.there
      exact ⟨c, by rw [List.getElem?_append_left (by rw [← ob.len]; exact hl)]; exact hc, z.mono (Ext.alloc hn) (upd_ne (ne_of_none hu hn))⟩
    · rw [List.getElem?_append_right (by omega)] at h
      have h1 := (List.getElem?_eq_some_iff.mp h).1
      have h2 : l - m.own.length = 0 := by simp at h1; omega
      rw [h2] at h
      have e : p = a := by simpa using h
      subst e
      refine ⟨b, ?_, hb⟩
      rw [List.getElem?_append_right (by rw [← ob.len]; omega), ← ob.len, h2]
      rfl
  adr := fun l c h hc => by
    by_cases hl : l < hp.length
    · rw [List.getElem?_append_left hl] at h
      obtain ⟨a, q⟩ := ob.adr l c h hc
      exact ⟨a, by unfold Ma.push; rw [List.getElem?_append_left (by rw [ob.len]; exact hl)]; exact q⟩
    · rw [List.getElem?_append_right (by omega)] at h
      have h1 := (List.getElem?_eq_some_iff.mp h).1
      have h2 : l - hp.length = 0 := by simp at h1; omega
      exact ⟨p, by unfold Ma.push; rw [List.getElem?_append_right (by rw [ob.len]; omega), ob.len, h2]; rfl⟩
/-- an object of ours is changed -/
theorem Ext.put {l : Nat} {a : Addr} {o u : HO} (hl : m.own[l]? = some (some a)) (h : H a = some u) (nt : ∀ vs, u ≠ .tup vs) (nf : ∀ ob vs, u ≠ .frz ob (.tup vs)) : Ext K H m (upd H a o) m where
  mm := fun _ _ h => .inl h
  ou := fun _ h => .inl h
  ol := fun _ h => h
  fr := fun b w hb f => by
    rw [upd_ne (fun e => f l (by rw [e]; exact hl))]
    exact hb
  nw := fun _ _ h => .inl h
  th := upd_th
  sq := fun b vs hb => by
    rcases hb with (hb | ⟨ob, hb⟩) | hb
    · exact .inl (.inl (by rw [upd_ne (fun e => by rw [e, h] at hb; exact nt vs (Option.some.inj hb))]; exact hb))
    · exact .inl (.inr ⟨ob, by rw [upd_ne (fun e => by rw [e, h] at hb; exact nf ob vs (Option.some.inj hb))]; exact hb⟩)
    · exact .inr hb
theorem Obs.put {l : Nat} {a : Addr} {o : HO} {b : Ob} (ob : Obs K H m hp) (hl : m.own[l]? = some (some a)) (e : Ext K H m (upd H a o) m) (hb : OV K m (upd H a o) a b) : Obs K (upd H a o) m (hp.set l b) where
  len := by rw [List.length_set]; exact ob.len
  ot := fun a h => (ob.ot a h).elim fun o z => e.th a o z
  inj := ob.inj
  dj := ob.dj
  obj := fun k c h => by
    by_cases hk : k = l
    · subst hk
      rw [hl] at h
      have : a = c := by simpa using h
      subst this
      have : k < hp.length := by rw [← ob.len]; exact (List.getElem?_eq_some_iff.mp hl).1
      exact ⟨b, by rw [List.getElem?_set_self this], hb⟩
    · obtain ⟨w, hw, z⟩ := ob.obj k c h
      refine ⟨w, by rw [List.getElem?_set_ne (Ne.symm hk)]; exact hw, z.mono e (upd_ne fun q => ?_)⟩
      subst q
      exact hk (ob.inj k l c h hl)
  adr := fun k c h hc => by
    by_cases hk : k = l
    · subst hk; exact ⟨a, hl⟩
    · rw [List.getElem?_set_ne (Ne.symm hk)] at h
      exact ob.adr k c h hc
/-- what stands at a number -/
theorem Obs.get (ob : Obs K H m hp) {l : Nat} {b : Ob} (h : hp[l]? = some b) (hb : b ≠ .dead) : ∃ a, m.own[l]? = some (some a) ∧ OV K m H a b := by
  obtain ⟨a, q⟩ := ob.adr l b h hb
  obtain ⟨c, hc, z⟩ := ob.obj l a q
  rw [h] at hc
  cases hc
  exact ⟨a, q, z⟩
end
end MP
end

section
set_option maxHeartbeats 2000000
/-! MpExpr: what a functional run of an expression says of the hand layer's judgements. -/
namespace MP
open PySem PySem.Spec L2

/-! ### the reading that a functional run gives -/
abbrev RelT (α ω : Type) := Ma → Hp → α → ω → Prop
def ExV (mg : Str → Option Value) (e : Exn) (c : Value) (d : Option Addr) : Prop := d = none ∧ ∃ C, c = .ref C ∧ mg e.cls = some (.ref C)
def Pst {α ω : Type} (K : PySem.W.Frag) (mg : Str → Option Value) (W : WX) (R : RelT α ω) (H : Hp) (m : Ma) (σ : St) (r : Out α) (hp' : AH) (Q : ω → Hp → Prop) : Prop := match r with
  | .val x => ∀ v H' m', Ext K H m H' m' → Obs K H' m' hp' → R m' H' x v → Q v H'
  | .exc e => ∀ c dd H' m', Ext K H m H' m' → Obs K H' m' hp' → ExV mg e c dd → W c dd σ H'
def toR {α ω : Type} (K : PySem.W.Frag) (mg : Str → Option Value) (W : WX) (R : RelT α ω) (d : DE α) : St → Hp → (ω → Hp → Prop) → Prop := fun σ H Q =>
  ∃ env hp m, Stt K H m env hp σ ∧ ∃ r hp', d env hp = some (r, hp') ∧ Pst K mg W R H m σ r hp' Q
abbrev RD (K : PySem.W.Frag) : RelT D V := fun m H x v => DV K m H x v
abbrev RA (K : PySem.W.Frag) : RelT (List D) (List V) := fun m H x v => DVs K m H x v
abbrev RB : RelT Bool Bool := fun _ _ b c => b = c
section
variable {α β ω ω' : Type} {K : PySem.W.Frag} {mg : Str → Option Value} {W : WX} {R : RelT α ω} {H H1 : Hp} {m m1 : Ma} {σ : St} {env : En} {hp hp' : AH} {Q : ω → Hp → Prop}
theorem Pst.mono {r : Out α} (e : Ext K H m H1 m1) (p : Pst K mg W R H m σ r hp' Q) : Pst K mg W R H1 m1 σ r hp' Q := by
  cases r with
  | val x => exact fun v H' m' f => p v H' m' (e.trans f)
  | exc x => exact fun c dd H' m' f => p c dd H' m' (e.trans f)
theorem toR_end {d : DE α} {r : Out α} (s : Stt K H m env hp σ) (e : d env hp = some (r, hp')) (p : Pst K mg W R H m σ r hp' Q) : toR K mg W R d σ H Q := ⟨env, hp, m, s, r, hp', e, p⟩
/-- the first part of a run, what follows it -/
theorem toR_step {R' : RelT β ω'} {Q' : ω' → Hp → Prop} {d : DE α} {k : α → AH → Mo β} {r : Out β} (s : Stt K H m env hp σ) (e : bE (d env hp) k = some (r, hp')) (p : Pst K mg W R' H m σ r hp' Q')
    (hv : ∀ x hp1, k x hp1 = some (r, hp') → ∀ v H1 m1, Ext K H m H1 m1 → Stt K H1 m1 env hp1 σ → R m1 H1 x v → Pst K mg W R' H1 m1 σ r hp' Q' → Q v H1) : toR K mg W R d σ H Q := by
  cases q : d env hp with
  | none => rw [q] at e; cases e
  | some z =>
    obtain ⟨o, h1⟩ := z
    rw [q] at e
    cases o with
    | val x => exact ⟨env, hp, m, s, .val x, h1, q, fun v H1 m1 f ob rv => hv x h1 e v H1 m1 f (s.step f ob) rv (p.mono f)⟩
    | exc x =>
      have e' : (Out.exc x, h1) = (r, hp') := Option.some.inj e
      cases e'
      exact ⟨env, hp, m, s, .exc x, _, q, p⟩
end
theorem _root_.L2.PE.weak {X : Cx} {e : Expr} {t t' : TE} (h : PE X e t) (w : ∀ σ H Q, t' σ H Q → t σ H Q) : PE X e t' := ⟨fun pins s σ H Q I q => h.run pins s σ H Q I (w σ H Q q)⟩
theorem _root_.L2.PT.weak {X : Cx} {e : Expr} {t t' : TT} (h : PT X e t) (w : ∀ σ H Q, t' σ H Q → t σ H Q) : PT X e t' := ⟨fun pins s σ H Q I q => h.run pins s σ H Q I (w σ H Q q)⟩
theorem _root_.L2.PW.weak {X : Cx} {e : Expr} {t t' : TT} (h : PW X e t) (w : ∀ σ H Q, t' σ H Q → t σ H Q) : PW X e t' := ⟨fun wh pins s σ H Q I q => h.run wh pins s σ H Q I (w σ H Q q)⟩
theorem _root_.L2.PA.weak {X : Cx} {e : List Expr} {t t' : TA} (h : PA X e t) (w : ∀ σ H Q, t' σ H Q → t σ H Q) : PA X e t' := ⟨fun po pins s σ H Q I q => h.run po pins s σ H Q I (w σ H Q q)⟩
theorem _root_.L2.PS.weak {X : Cx} {e : Stmt} {t t' : TS} (h : PS X e t) (w : ∀ D σ H, t' D σ H → t D σ H) : PS X e t' := ⟨fun pins s σ H D I q => h.run pins s σ H D I (w D σ H q)⟩
theorem _root_.L2.PSs.weak {X : Cx} {e : List Stmt} {t t' : TS} (h : PSs X e t) (w : ∀ D σ H, t' D σ H → t D σ H) : PSs X e t' := ⟨fun pins s σ H D I q => h.run pins s σ H D I (w D σ H q)⟩
abbrev ME (X : Cx) (W : WX) (e : Expr) (d : DE D) : Prop := PE X e (toR X.K X.mg W (RD X.K) d)
abbrev MT (X : Cx) (W : WX) (e : Expr) (d : DE Bool) : Prop := PT X e (toR X.K X.mg W RB d)
abbrev MW (X : Cx) (W : WX) (e : Expr) (d : DE Bool) : Prop := PW X e (toR X.K X.mg W RB d)
abbrev MA (X : Cx) (W : WX) (es : List Expr) (d : DE (List D)) : Prop := PA X es (toR X.K X.mg W (RA X.K) d)

/-! ### names, constants, displays -/
def dLit (d : D) : DE D := fun _ hp => some (.val d, hp)
def dVar (i : Nat) : DE D := fun env hp => match env[i]? with
  | some (some d) => some (.val d, hp)
  | _ => none
def aNil : DE (List D) := fun _ hp => some (.val [], hp)
def aCons (d : DE D) (ds : DE (List D)) : DE (List D) := fun env hp => bE (d env hp) fun x h1 => bE (ds env h1) fun xs h2 => some (.val (x :: xs), h2)
def lim : Nat := 16777216
theorem lim_eq : sizeLine = lim := sizeLine_eq
def dTup (ds : DE (List D)) : DE D := fun env hp => bE (ds env hp) fun xs h1 => if xs.length ≤ lim then some (.val (.tup xs), h1) else none
def dLst (ds : DE (List D)) : DE D := fun env hp => bE (ds env hp) fun xs h1 => if xs.length ≤ lim then some (.val (.vls xs), h1) else none
section
variable {X : Cx} {W : WX}
theorem me_var {i : Nat} {x : Str} {pos : Pos} (hN : X.N[i]? = some x) (hv : Vis X.env.scope x) (hd : (x == ("__debug__" : Str)) = false) (hcd : (x == ("__classdict__" : Str)) = false) : ME X W (.Name x pos) (dVar i) := by
  refine (pe_var hN hv hd hcd).weak fun σ H Q h => ?_
  obtain ⟨env, hp, m, s, r, hp', e, p⟩ := h
  unfold dVar at e
  split at e
  · rename_i d q
    cases e
    obtain ⟨v, h1, h2⟩ := s.en.get q
    exact ⟨v, h1, p v H m .refl s.ob h2⟩
  · cases e
theorem me_of {e : Expr} {d : D} {v : V} (h : PE X e (tC v)) (hd : ∀ m H, DV X.K m H d v) : ME X W e (dLit d) := by
  refine h.weak fun σ H Q h => ?_
  obtain ⟨env, hp, m, s, r, hp', e, p⟩ := h
  cases e
  exact p v H m .refl s.ob (hd m H)
theorem me_int {i j pos} : ME X W (.Constant (.int i) j pos) (dLit (.int i)) := me_of pe_int fun _ _ => .int i
theorem me_bl {i j pos} : ME X W (.Constant (.bool i) j pos) (dLit (.bl i)) := me_of pe_bl fun _ _ => .bl i
theorem me_non {j pos} : ME X W (.Constant .none j pos) (dLit .non) := me_of pe_non fun _ _ => .non
theorem me_str {x j pos} : ME X W (.Constant (.str x) j pos) (dLit (.str x)) := me_of pe_str fun _ _ => .str x
theorem ma_nil : MA X W [] aNil := by
  refine pa_nil.weak fun σ H Q h => ?_
  obtain ⟨env, hp, m, s, r, hp', e, p⟩ := h
  cases e
  exact p [] H m .refl s.ob .nil
theorem ma_cons {e : Expr} {es : List Expr} {d : DE D} {ds : DE (List D)} (h : ME X W e d) (hs : MA X W es ds) (hst : starEach (e :: es) X.env = (false, eval e X.env) :: starEach es X.env) : MA X W (e :: es) (aCons d ds) := by
  refine (pa_cons h hs hst).weak fun σ H Q h => ?_
  obtain ⟨env, hp, m, s, r, hp', e, p⟩ := h
  refine toR_step s e p fun x hp1 e1 v H1 m1 E1 s1 rv p1 => ?_
  refine toR_step s1 e1 p1 fun xs hp2 e2 vs H2 m2 E2 s2 rvs p2 => ?_
  cases e2
  exact p2 (v :: vs) H2 m2 .refl s2.ob (.cons (rv.mono E2) rvs)
theorem me_tup {es : List Expr} {k : Nat} {pos : Pos} {ds : DE (List D)} (h : MA X W es ds) : ME X W (.Tuple es k pos) (dTup ds) := by
  refine (pe_tup h).weak fun σ H Q h => ?_
  obtain ⟨env, hp, m, s, r, hp', e, p⟩ := h
  refine toR_step s e p fun xs hp1 e1 vs H1 m1 E1 s1 rv p1 => ?_
  split at e1
  · rename_i hl
    cases e1
    have hl2 : vs.length ≤ sizeLine := by rw [← rv.length, lim_eq]; exact hl
    exact ⟨hl2, fun a ha => p1 _ _ _ (.laid ha) (s1.ob.laid ha) (.tup (SqT.of upd_same) (rv.mono (.laid ha)))⟩
  · cases e1
theorem me_lst {es : List Expr} {pos : Pos} {ds : DE (List D)} (h : MA X W es ds) : ME X W (.List es pos) (dLst ds) := by
  refine (pe_lst h).weak fun σ H Q h => ?_
  obtain ⟨env, hp, m, s, r, hp', e, p⟩ := h
  refine toR_step s e p fun xs hp1 e1 vs H1 m1 E1 s1 rv p1 => ?_
  split at e1
  · rename_i hl
    cases e1
    have hl2 : vs.length ≤ sizeLine := by rw [← rv.length, lim_eq]; exact hl
    exact ⟨hl2, fun a ha => p1 _ _ _ (.laid ha) (s1.ob.laid ha) (.vls ⟨upd_same, s1.ob.free ha⟩ (rv.mono (.laid ha)))⟩
  · cases e1
end

/-! ### two-place operations by values -/
abbrev F2 := AH → D → D → Option D
def rF (K : PySem.W.Frag) (f : F2) : R2 := fun vx vy H Q => ∃ hp m x y z, Obs K H m hp ∧ DV K m H x vx ∧ DV K m H y vy ∧ f hp x y = some z ∧ ∀ v H', Ext K H m H' m → Obs K H' m hp → DV K m H' z v → Q v H'
def dBin (f : F2) (a b : DE D) : DE D := fun env hp => bE (a env hp) fun x h1 => bE (b env h1) fun y h2 => match f h2 x y with
  | some z => some (.val z, h2)
  | none => none
section
variable {X : Cx} {W : WX} {a b : Expr} {da db : DE D} {f : F2} {pos : Pos}
theorem rF_run {σ : St} {H : Hp} {Q : VK} (h : toR X.K X.mg W (RD X.K) (dBin f da db) σ H Q) : tOp (rF X.K f) (toR X.K X.mg W (RD X.K) da) (toR X.K X.mg W (RD X.K) db) σ H Q := by
  obtain ⟨env, hp, m, s, r, hp', e, p⟩ := h
  refine toR_step s e p fun x hp1 e1 v H1 m1 E1 s1 rv p1 => ?_
  refine toR_step s1 e1 p1 fun y hp2 e2 u H2 m2 E2 s2 ru p2 => ?_
  split at e2
  · rename_i z hz
    cases e2
    exact ⟨_, m2, x, y, z, s2.ob, rv.mono E2, ru, hz, fun v' H' E' o' d' => p2 v' H' m2 E' o' d'⟩
  · cases e2
theorem me_bin {o : Operator} (hf : OpR X (binaryOp o) (rF X.K f)) (ha : ME X W a da) (hb : ME X W b db) : ME X W (.BinOp a o b pos) (dBin f da db) := (pe_op hf ha hb).weak fun _ _ _ h => rF_run h
theorem me_cmp {o : CmpOp} (hf : OpR X (compareOp o) (rF X.K f)) (ha : ME X W a da) (hb : ME X W b db) (hm : behindInMarks o b = false) : ME X W (.Compare a [o] [b] pos) (dBin f da db) := (pe_cmpR hf ha hb hm).weak fun _ _ _ h => rF_run h
end
/-- the items of a list that is no script's -/
def lstOf (hp : AH) : D → Option (List D)
  | .vls xs => some xs
  | .ref l => match hp[l]? with
    | some (.lst xs) => some xs
    | _ => none
  | _ => none
/-- the items of any list -/
def lstOfR (hp : AH) : D → Option (List D)
  | .vls xs => some xs
  | .rls xs => some xs
  | .ref l => match hp[l]? with
    | some (.lst xs) => some xs
    | some (.rol xs) => some xs
    | _ => none
  | _ => none
section
variable {K : PySem.W.Frag} {H : Hp} {m : Ma} {hp : AH} {d : D} {v : V} {xs : List D}
theorem lstOf_at (ob : Obs K H m hp) (h : DV K m H d v) (e : lstOf hp d = some xs) : ∃ a vs, v = .ref a ∧ H a = some (.lst vs) ∧ DVs K m H xs vs := by
  cases h with
  | vls h t =>
    cases e
    exact ⟨_, _, rfl, h.1, t⟩
  | @ref l a h =>
    simp only [lstOf] at e
    split at e
    · rename_i ys q
      cases e
      obtain ⟨a', h', vs, z, r⟩ := ob.get q (by intro z; cases z)
      rw [h] at h'
      cases h'
      exact ⟨_, _, rfl, z, r⟩
    · cases e
  | @dead l v h =>
    simp only [lstOf] at e
    split at e
    · rename_i ys q
      obtain ⟨a', h', _⟩ := ob.get q (by intro z; cases z)
      rw [h] at h'
      cases h'
    · cases e
  | _ => cases e
theorem lstOfR_at (ob : Obs K H m hp) (h : DV K m H d v) (e : lstOfR hp d = some xs) : ∃ a vs, v = .ref a ∧ SqL K H a vs ∧ DVs K m H xs vs := by
  cases h with
  | vls h t =>
    cases e
    exact ⟨_, _, rfl, h.sq, t⟩
  | rls h t =>
    cases e
    exact ⟨_, _, rfl, h.sq, t⟩
  | @ref l a h =>
    simp only [lstOfR] at e
    split at e
    · rename_i ys q
      cases e
      obtain ⟨a', h', vs, z, r⟩ := ob.get q (by intro z; cases z)
      rw [h] at h'
      cases h'
      exact ⟨_, _, rfl, .inl (.inl z), r⟩
    · rename_i ys q
      cases e
      obtain ⟨a', h', o, vs, z, r⟩ := ob.get q (by intro z; cases z)
      rw [h] at h'
      cases h'
      exact ⟨_, _, rfl, .inl (.inr ⟨o, z⟩), r⟩
    · cases e
  | @dead l v h =>
    simp only [lstOfR] at e
    split at e
    · rename_i ys q
      obtain ⟨a', h', _⟩ := ob.get q (by intro z; cases z)
      rw [h] at h'
      cases h'
    · rename_i ys q
      obtain ⟨a', h', _⟩ := ob.get q (by intro z; cases z)
      rw [h] at h'
      cases h'
    · cases e
  | _ => cases e
end
def addD : F2
  | _, .int i, .int j => some (.int (i + j))
  | _, .str s, .str t => if s.length + t.length ≤ lim then some (.str (s ++ t)) else none
  | _, .tup xs, .tup ys => if xs.length + ys.length ≤ lim then some (.tup (xs ++ ys)) else none
  | hp, x, y => match lstOf hp x, lstOf hp y with
    | some xs, some ys => if xs.length + ys.length ≤ lim then some (.vls (xs ++ ys)) else none
    | _, _ => none
section
variable {X : Cx} {W : WX}
theorem op_addF : OpR X (binaryOp .Add) (rF X.K addD) := by
  intro pins s σ H vx vy v u Q I rx ry h
  obtain ⟨hp, m, x, y, z, ob, dx, dy, e, q⟩ := h
  unfold addD at e
  split at e
  · cases e; cases dx; cases dy
    exact op_add pins s σ H _ _ v u Q I rx ry ⟨_, _, rfl, rfl, q _ _ .refl ob (.int _)⟩
  · split at e
    · rename_i hl
      cases e; cases dx; cases dy
      exact op_add_str pins s σ H _ _ v u Q I rx ry ⟨_, _, rfl, rfl, by rw [lim_eq]; exact hl, q _ _ .refl ob (.str _)⟩
    · cases e
  · split at e
    · rename_i xs ys hl
      cases e
      cases dx with
      | @tup a _ vs ha ra =>
        cases dy with
        | @tup b _ us hb rb =>
          have l1 := ra.length
          have l2 := rb.length
          refine op_catA pins s σ H _ _ v u Q I rx ry ⟨a, b, vs, us, rfl, rfl, ha, hb, by rw [← l1, ← l2, lim_eq]; exact hl, fun e0 => ?_, fun _ e0 => ?_, fun _ _ p hn => ?_⟩
          · subst e0
            cases ra
            exact q _ _ .refl ob (.tup hb rb)
          · subst e0
            cases rb
            rw [List.append_nil] at q
            exact q _ _ .refl ob (.tup ha ra)
          · exact q _ _ (.laid hn) (ob.laid hn) (.tup (SqT.of upd_same) ((ra.append rb).mono (.laid hn)))
    · cases e
  · split at e
    · rename_i xs ys h1 h2
      split at e
      · rename_i hl
        cases e
        obtain ⟨a, vs, rfl, ha, ra⟩ := lstOf_at ob dx h1
        obtain ⟨b, us, rfl, hb, rb⟩ := lstOf_at ob dy h2
        refine op_cat pins s σ H _ _ v u Q I rx ry ⟨a, b, vs, us, rfl, rfl, ha, hb, by rw [← ra.length, ← rb.length, lim_eq]; exact hl, fun p hn => ?_⟩
        exact q _ _ (.laid hn) (ob.laid hn) (.vls ⟨upd_same, ob.free hn⟩ ((ra.append rb).mono (.laid hn)))
      · cases e
    · cases e
end
end MP
end

section
set_option maxHeartbeats 2000000
/-! MpOps: operators and comparisons on clean data. -/
namespace MP
open PySem PySem.Spec L2

/-! ### data as the library's own data -/
mutual
def D.pd : D → PyData
  | .non => .none | .bl b => .bool b | .int i => .int i | .str s => .str s
  | .tup xs => .tuple (D.pds xs) | .vls xs => .list (D.pds xs) | .ref _ => .none | .exn _ => .none | .exf _ _ _ => .none | .rls _ => .none
def D.pds : List D → List PyData
  | [] => []
  | x :: xs => D.pd x :: D.pds xs
end
mutual
/-- no number of the heap stands in it -/
def D.pure : D → Bool
  | .tup xs => D.pures xs | .vls xs => D.pures xs | .ref _ => false
  | .exn _ => true | .exf _ _ x => D.pure x | .rls xs => D.pures xs
  | .non => true | .bl _ => true | .int _ => true | .str _ => true
def D.pures : List D → Bool
  | [] => true
  | x :: xs => D.pure x && D.pures xs
end
/-- no number of the heap stands in it, at most n deep, all texts are texts -/
def D.goods (g : D → Bool) : List D → Bool
  | [] => true
  | x :: xs => g x && D.goods g xs
def D.good : Nat → D → Bool
  | _, .non => true | _, .bl _ => true | _, .int _ => true
  | _, .str s => PyData.strOk s
  | _, .ref _ => false
  | _, .exn _ => false
  | _, .exf _ _ _ => false
  | _, .rls _ => false
  | 0, .tup _ => false | 0, .vls _ => false
  | n + 1, .tup xs => D.goods (D.good n) xs
  | n + 1, .vls xs => D.goods (D.good n) xs
mutual
/-- Python's == -/
def D.eqv : D → D → Bool
  | .non, .non => true
  | .bl a, .bl b => a == b
  | .bl a, .int j => (if a then 1 else 0) == j
  | .int i, .bl b => i == (if b then 1 else 0)
  | .int i, .int j => i == j
  | .str x, .str y => x == y
  | .vls xs, .vls ys => D.eqvs xs ys
  | .tup xs, .tup ys => D.eqvs xs ys
  | _, _ => false
def D.eqvs : List D → List D → Bool
  | [], [] => true
  | x :: xs, y :: ys => D.eqv x y && D.eqvs xs ys
  | _, _ => false
end
mutual
theorem D.good_lay : ∀ (n : Nat) (d : D), d.good n = true → d.pd.canLay0 = true ∧ d.pd.depth ≤ n
  | n, .non, h => by simp [D.pd, PyData.canLay0, PyData.depth]
  | n, .bl b, h => by simp [D.pd, PyData.canLay0, PyData.depth]
  | n, .int i, h => by simp [D.pd, PyData.canLay0, PyData.depth]
  | n, .str s, h => by
    have h : PyData.strOk s = true := by cases n <;> exact h
    simp [D.pd, PyData.canLay0, PyData.depth, h]
  | n, .ref _, h => by cases n <;> cases h
  | n, .exn _, h => by cases n <;> cases h
  | n, .exf _ _ _, h => by cases n <;> cases h
  | n, .rls _, h => by cases n <;> cases h
  | 0, .tup _, h => by cases h
  | 0, .vls _, h => by cases h
  | n + 1, .tup xs, h => by
    obtain ⟨a, b⟩ := D.goods_lay n xs h
    simp only [D.pd, PyData.canLay0, PyData.depth]
    exact ⟨a, by omega⟩
  | n + 1, .vls xs, h => by
    obtain ⟨a, b⟩ := D.goods_lay n xs h
    simp only [D.pd, PyData.canLay0, PyData.depth]
    exact ⟨a, by omega⟩
theorem D.goods_lay : ∀ (n : Nat) (ds : List D), D.goods (D.good n) ds = true → PyData.canLayAll0 (D.pds ds) = true ∧ PyData.depthAll (D.pds ds) ≤ n
  | n, [], h => by simp [D.pds, PyData.canLayAll0, PyData.depthAll]
  | n, d :: ds, h => by
    simp only [D.goods, Bool.and_eq_true] at h
    obtain ⟨a, b⟩ := D.good_lay n d h.1
    obtain ⟨c, e⟩ := D.goods_lay n ds h.2
    simp only [D.pds, PyData.canLayAll0, PyData.depthAll, a, c, Bool.and_self, true_and]
    omega
end
mutual
theorem D.eqv_pd : ∀ (n k : Nat) (x y : D), x.good n = true → y.good k = true → PyData.eqv x.pd y.pd = D.eqv x y
  | n, k, .ref _, y, h, _ => by cases n <;> cases h
  | n, k, .exn _, y, h, _ => by cases n <;> cases h
  | n, k, .exf _ _ _, y, h, _ => by cases n <;> cases h
  | n, k, .rls _, y, h, _ => by cases n <;> cases h
  | n, k, x, .ref _, _, h => by cases k <;> cases h
  | n, k, x, .exn _, _, h => by cases k <;> cases h
  | n, k, x, .exf _ _ _, _, h => by cases k <;> cases h
  | n, k, x, .rls _, _, h => by cases k <;> cases h
  | 0, k, .tup _, y, h, _ => by cases h
  | 0, k, .vls _, y, h, _ => by cases h
  | n, 0, x, .tup _, _, h => by cases h
  | n, 0, x, .vls _, _, h => by cases h
  | n + 1, k + 1, .tup xs, .tup ys, h, h' => by
    simp only [D.pd, PyData.eqv, D.eqv]
    exact D.eqvs_pd n k xs ys h h'
  | n + 1, k + 1, .vls xs, .vls ys, h, h' => by
    simp only [D.pd, PyData.eqv, D.eqv]
    exact D.eqvs_pd n k xs ys h h'
  | n + 1, k + 1, .tup xs, .vls ys, h, h' => by simp [D.pd, PyData.eqv, D.eqv]
  | n + 1, k + 1, .vls xs, .tup ys, h, h' => by simp [D.pd, PyData.eqv, D.eqv]
  | n + 1, k, .tup xs, .non, h, h' => by simp [D.pd, PyData.eqv, D.eqv]
  | n + 1, k, .tup xs, .bl _, h, h' => by simp [D.pd, PyData.eqv, D.eqv]
  | n + 1, k, .tup xs, .int _, h, h' => by simp [D.pd, PyData.eqv, D.eqv]
  | n + 1, k, .tup xs, .str _, h, h' => by simp [D.pd, PyData.eqv, D.eqv]
  | n + 1, k, .vls xs, .non, h, h' => by simp [D.pd, PyData.eqv, D.eqv]
  | n + 1, k, .vls xs, .bl _, h, h' => by simp [D.pd, PyData.eqv, D.eqv]
  | n + 1, k, .vls xs, .int _, h, h' => by simp [D.pd, PyData.eqv, D.eqv]
  | n + 1, k, .vls xs, .str _, h, h' => by simp [D.pd, PyData.eqv, D.eqv]
  | n, k + 1, .non, .tup xs, h, h' => by simp [D.pd, PyData.eqv, D.eqv]
  | n, k + 1, .bl _, .tup xs, h, h' => by simp [D.pd, PyData.eqv, D.eqv]
  | n, k + 1, .int _, .tup xs, h, h' => by simp [D.pd, PyData.eqv, D.eqv]
  | n, k + 1, .str _, .tup xs, h, h' => by simp [D.pd, PyData.eqv, D.eqv]
  | n, k + 1, .non, .vls xs, h, h' => by simp [D.pd, PyData.eqv, D.eqv]
  | n, k + 1, .bl _, .vls xs, h, h' => by simp [D.pd, PyData.eqv, D.eqv]
  | n, k + 1, .int _, .vls xs, h, h' => by simp [D.pd, PyData.eqv, D.eqv]
  | n, k + 1, .str _, .vls xs, h, h' => by simp [D.pd, PyData.eqv, D.eqv]
  | n, k, .non, .non, h, h' => by simp [D.pd, PyData.eqv, D.eqv]
  | n, k, .non, .bl _, h, h' => by simp [D.pd, PyData.eqv, D.eqv]
  | n, k, .non, .int _, h, h' => by simp [D.pd, PyData.eqv, D.eqv]
  | n, k, .non, .str _, h, h' => by simp [D.pd, PyData.eqv, D.eqv]
  | n, k, .bl _, .non, h, h' => by simp [D.pd, PyData.eqv, D.eqv]
  | n, k, .bl _, .bl _, h, h' => by simp [D.pd, PyData.eqv, D.eqv]
  | n, k, .bl _, .int _, h, h' => by simp [D.pd, PyData.eqv, D.eqv]
  | n, k, .bl _, .str _, h, h' => by simp [D.pd, PyData.eqv, D.eqv]
  | n, k, .int _, .non, h, h' => by simp [D.pd, PyData.eqv, D.eqv]
  | n, k, .int _, .bl _, h, h' => by simp [D.pd, PyData.eqv, D.eqv]
  | n, k, .int _, .int _, h, h' => by simp [D.pd, PyData.eqv, D.eqv]
  | n, k, .int _, .str _, h, h' => by simp [D.pd, PyData.eqv, D.eqv]
  | n, k, .str _, .non, h, h' => by simp [D.pd, PyData.eqv, D.eqv]
  | n, k, .str _, .bl _, h, h' => by simp [D.pd, PyData.eqv, D.eqv]
  | n, k, .str _, .int _, h, h' => by simp [D.pd, PyData.eqv, D.eqv]
  | n, k, .str _, .str _, h, h' => by simp [D.pd, PyData.eqv, D.eqv]
theorem D.eqvs_pd : ∀ (n k : Nat) (xs ys : List D), D.goods (D.good n) xs = true → D.goods (D.good k) ys = true → PyData.eqvAll (D.pds xs) (D.pds ys) = D.eqvs xs ys
  | n, k, [], [], _, _ => by simp [D.pds, PyData.eqvAll, D.eqvs]
  | n, k, [], y :: ys, _, _ => by simp [D.pds, PyData.eqvAll, D.eqvs]
  | n, k, x :: xs, [], _, _ => by simp [D.pds, PyData.eqvAll, D.eqvs]
  | n, k, x :: xs, y :: ys, h, h' => by
    simp only [D.goods, Bool.and_eq_true] at h h'
    simp only [D.pds, PyData.eqvAll, D.eqvs, D.eqv_pd n k x y h.1 h'.1, D.eqvs_pd n k xs ys h.2 h'.2]
end
mutual
theorem D.dp {K : PySem.W.Frag} {m : Ma} {H : Hp} : ∀ (n : Nat) (d : D) {v : V}, d.good n = true → DV K m H d v → Dp K H v d.pd
  | n, .ref _, _, h, _ => by cases n <;> cases h
  | n, .exn _, _, h, _ => by cases n <;> cases h
  | n, .exf _ _ _, _, h, _ => by cases n <;> cases h
  | n, .rls _, _, h, _ => by cases n <;> cases h
  | 0, .tup _, _, h, _ => by cases h
  | 0, .vls _, _, h, _ => by cases h
  | n, .non, _, _, .non => .non
  | n, .bl b, _, _, .bl _ => .bl b
  | n, .int i, _, _, .int _ => .int i
  | n, .str s, _, _, .str _ => .str s
  | n + 1, .tup xs, _, h, .tup q t => .tup q (D.dps n xs h t)
  | n + 1, .vls xs, _, h, .vls q t => .lst q.sq (D.dps n xs h t)
theorem D.dps {K : PySem.W.Frag} {m : Ma} {H : Hp} : ∀ (n : Nat) (ds : List D) {vs : List V}, D.goods (D.good n) ds = true → DVs K m H ds vs → DpAll K H vs (D.pds ds)
  | n, [], _, _, .nil => .nil
  | n, d :: ds, _, h, .cons q t => by
    simp only [D.goods, Bool.and_eq_true] at h
    exact .cons (D.dp n d h.1 q) (D.dps n ds h.2 t)
end
/-- a list that may change, as it stands -/
def D.see (hp : AH) : D → D
  | .ref l => match hp[l]? with
    | some (.lst xs) => .vls xs
    | some (.rol xs) => .vls xs
    | _ => .ref l
  | d => d
def deepest : Nat := 150
theorem see_dp {K : PySem.W.Frag} {m : Ma} {H : Hp} {hp : AH} {d : D} {v : V} (ob : Obs K H m hp) (h : DV K m H d v) (g : (d.see hp).good deepest = true) : Dp K H v (d.see hp).pd := by
  cases d with
  | ref l =>
    cases h with
    | @ref _ a h =>
      simp only [D.see] at g ⊢
      split at g
      · rename_i xs q
        obtain ⟨a', h', vs, z, r⟩ := ob.get q (by intro z; cases z)
        rw [h] at h'
        cases h'
        exact .lst (.inl (.inl z)) (D.dps _ xs g r)
      · rename_i xs q
        obtain ⟨a', h', o, vs, z, r⟩ := ob.get q (by intro z; cases z)
        rw [h] at h'
        cases h'
        exact .lst (.inl (.inr ⟨o, z⟩)) (D.dps _ xs g r)
      · cases g
    | dead h =>
      simp only [D.see] at g ⊢
      split at g
      · rename_i xs q
        obtain ⟨a', h', _⟩ := ob.get q (by intro z; cases z)
        rw [h] at h'
        cases h'
      · rename_i xs q
        obtain ⟨a', h', _⟩ := ob.get q (by intro z; cases z)
        rw [h] at h'
        cases h'
      · cases g
  | _ => exact D.dp _ _ g h

/-! ### == and != -/
def sv : D → Option V
  | .non => some .non | .bl b => some (.bl b) | .int i => some (.int i) | .str s => some (.str s)
  | _ => none
theorem sv_at {K : PySem.W.Frag} {m : Ma} {H : Hp} {d : D} {v w : V} (h : DV K m H d v) (e : sv d = some w) : v = w := by
  cases h <;> first | (cases e; rfl) | cases e
def eqDeep (hp : AH) (x y : D) : Option Bool := if (x.see hp).good deepest && (y.see hp).good deepest then some (D.eqv (x.see hp) (y.see hp)) else none
def eqB (hp : AH) (x y : D) : Option Bool := match sv x, sv y with
  | some v, some w => if scal v w then some (decide (v = w)) else eqDeep hp x y
  | _, _ => eqDeep hp x y
abbrev F2B := AH → D → D → Option Bool
/-- a comparison's answer as a value -/
def bl2 (f : F2B) : F2 := fun hp x y => (f hp x y).map .bl
def neB : F2B := fun hp x y => (eqB hp x y).map fun b => !b
def eqD : F2 := bl2 eqB
def neD : F2 := bl2 neB
section
variable {X : Cx}
theorem deep_room {n : Nat} {A : Around} {p q : PyData} (hr : Room n A) (h : p.depth ≤ deepest) : A.units + 1 + min p.depth q.depth < cLine := by
  have h1 := hr.un
  have h2 : min p.depth q.depth ≤ p.depth := Nat.min_le_left _ _
  have h3 : deepest = 150 := rfl
  omega
theorem op_eqF {n : Nat} (hr : Room n X.A) : OpR X (compareOp .Eq) (rF X.K eqD) := by
  intro pins s σ H vx vy v u Q I rx ry h
  obtain ⟨hp, m, x, y, z, ob, dx, dy, e, q⟩ := h
  have deep : ∀ b, eqDeep hp x y = some b → z = .bl b → wpAny (model X.prog X.w) X.A (compareOp .Eq v u) (EP X pins σ Q) X.xe s := fun b e1 e2 => by
    unfold eqDeep at e1
    split at e1
    · rename_i hg
      rw [Bool.and_eq_true] at hg
      cases e1
      subst e2
      obtain ⟨as, r1⟩ := Dp.reads I _ _ v (see_dp ob dx hg.1) rx
      obtain ⟨bs, r2⟩ := Dp.reads I _ _ u (see_dp ob dy hg.2) ry
      obtain ⟨l1, l2⟩ := D.good_lay _ _ hg.1
      obtain ⟨l3, l4⟩ := D.good_lay _ _ hg.2
      refine SeqAt.compareEq_reads r1 r2 l1 l3 (Nat.lt_of_le_of_lt (by omega) (deep_room (q := (y.see hp).pd) hr l2)) ⟨.bl _, H, I, rfl, ?_⟩
      rw [D.eqv_pd _ _ _ _ hg.1 hg.2]
      exact q _ _ .refl ob (.bl _)
    · cases e1
  unfold eqD bl2 eqB at e
  split at e
  · rename_i a b h1 h2
    split at e
    · rename_i hs
      cases e
      have e1 := sv_at dx h1
      have e2 := sv_at dy h2
      subst e1 e2
      exact op_eq pins s σ H _ _ v u Q I rx ry ⟨hs, q _ _ .refl ob (.bl _)⟩
    · cases e1 : eqDeep hp x y with
      | none => rw [e1] at e; cases e
      | some b => rw [e1] at e; cases e; exact deep b e1 rfl
  · cases e1 : eqDeep hp x y with
    | none => rw [e1] at e; cases e
    | some b => rw [e1] at e; cases e; exact deep b e1 rfl
theorem op_neF {n : Nat} (hr : Room n X.A) : OpR X (compareOp .NotEq) (rF X.K neD) := by
  intro pins s σ H vx vy v u Q I rx ry h
  obtain ⟨hp, m, x, y, z, ob, dx, dy, e, q⟩ := h
  have deep : ∀ b, eqDeep hp x y = some b → z = .bl (!b) → wpAny (model X.prog X.w) X.A (compareOp .NotEq v u) (EP X pins σ Q) X.xe s := fun b e1 e2 => by
    unfold eqDeep at e1
    split at e1
    · rename_i hg
      rw [Bool.and_eq_true] at hg
      cases e1
      subst e2
      obtain ⟨as, r1⟩ := Dp.reads I _ _ v (see_dp ob dx hg.1) rx
      obtain ⟨bs, r2⟩ := Dp.reads I _ _ u (see_dp ob dy hg.2) ry
      obtain ⟨l1, l2⟩ := D.good_lay _ _ hg.1
      obtain ⟨l3, l4⟩ := D.good_lay _ _ hg.2
      refine SeqAt.compareNe_reads r1 r2 l1 l3 (Nat.lt_of_le_of_lt (by omega) (deep_room (q := (y.see hp).pd) hr l2)) ⟨.bl _, H, I, rfl, ?_⟩
      rw [D.eqv_pd _ _ _ _ hg.1 hg.2]
      exact q _ _ .refl ob (.bl _)
    · cases e1
  unfold neD bl2 neB eqB at e
  rw [Option.map_map] at e
  split at e
  · rename_i a b h1 h2
    split at e
    · rename_i hs
      cases e
      have e1 := sv_at dx h1
      have e2 := sv_at dy h2
      subst e1 e2
      exact op_ne pins s σ H _ _ v u Q I rx ry ⟨hs, q _ _ .refl ob (.bl _)⟩
    · cases e1 : eqDeep hp x y with
      | none => rw [e1] at e; cases e
      | some b => rw [e1] at e; cases e; exact deep b e1 rfl
  · cases e1 : eqDeep hp x y with
    | none => rw [e1] at e; cases e
    | some b => rw [e1] at e; cases e; exact deep b e1 rfl
end

/-! ### arithmetic, order -/
def subD : F2
  | _, .int i, .int j => some (.int (i - j))
  | _, _, _ => none
def mulOk (i j : Int) : Bool := (decide (-18446744073709551616 < i) && decide (i < 18446744073709551616)) || (decide (-18446744073709551616 < j) && decide (j < 18446744073709551616))
def mulD : F2
  | _, .int i, .int j => if mulOk i j then some (.int (i * j)) else none
  | _, .tup xs, .int k => if xs ≠ [] ∧ 2 ≤ k ∧ k ≤ 1000 ∧ xs.length ≤ 1000 then some (.tup (List.replicate k.toNat xs).flatten) else none
  | hp, x, .int k => match lstOf hp x with
    | some xs => if -9223372036854775808 ≤ k ∧ k < 9223372036854775808 ∧ xs.length * k.toNat ≤ lim then some (.vls (List.replicate k.toNat xs).flatten) else none
    | none => none
  | _, _, _ => none
def fdivD : F2
  | _, .int i, .int j => if 0 < j ∧ j < 1073741824 then some (.int (i / j)) else none
  | _, _, _ => none
def modD : F2
  | _, .int i, .int j => if 0 < j then some (.int (i % j)) else none
  | _, _, _ => none
def powD : F2
  | _, .int i, .int j => if 0 ≤ j ∧ j ≤ 1000000 ∧ i.natAbs < 18446744073709551616 then some (.int (i ^ j.toNat)) else none
  | _, _, _ => none
def intB (f : Int → Int → Bool) : F2B
  | _, .int i, .int j => some (f i j)
  | _, _, _ => none
def ltB : F2B
  | _, .int i, .int j => some (decide (i < j))
  | _, .str s, .str t => some (decide (s.cps.toList < t.cps.toList))
  | _, _, _ => none
def leB : F2B := intB fun i j => decide (i ≤ j)
def gtB : F2B := intB fun i j => decide (j < i)
def geB : F2B := intB fun i j => decide (j ≤ i)
/-- x is None -/
def isNonD (hp : AH) : D → Option Bool
  | .non => some true | .bl _ => some false | .int _ => some false | .str _ => some false | .tup _ => some false | .vls _ => some false
  | .exn _ => none | .exf _ _ _ => none | .rls _ => some false
  | .ref l => match hp[l]? with
    | some .dead => none
    | some _ => some false
    | none => none
def isNB : F2B
  | hp, x, .non => isNonD hp x
  | _, _, _ => none
def notNB : F2B := fun hp x y => (isNB hp x y).map fun b => !b
def ltD : F2 := bl2 ltB
def leD : F2 := bl2 leB
def gtD : F2 := bl2 gtB
def geD : F2 := bl2 geB
def isND : F2 := bl2 isNB
def notND : F2 := bl2 notNB
section
variable {X : Cx}
theorem op_subF : OpR X (binaryOp .Sub) (rF X.K subD) := by
  intro pins s σ H vx vy v u Q I rx ry h
  obtain ⟨hp, m, x, y, z, ob, dx, dy, e, q⟩ := h
  unfold subD at e
  split at e
  · cases e; cases dx; cases dy
    exact op_sub pins s σ H _ _ v u Q I rx ry ⟨_, _, rfl, rfl, q _ _ .refl ob (.int _)⟩
  · cases e
theorem mulOk_at {i j : Int} (h : mulOk i j = true) : CMul i j := by
  unfold mulOk at h
  rw [Bool.or_eq_true, Bool.and_eq_true, Bool.and_eq_true] at h
  simp only [decide_eq_true_eq] at h
  unfold CMul
  have e : (2 : Int) ^ 64 = 18446744073709551616 := by decide
  rw [e]
  exact h
theorem op_mulF : OpR X (binaryOp .Mult) (rF X.K mulD) := by
  intro pins s σ H vx vy v u Q I rx ry h
  obtain ⟨hp, m, x, y, z, ob, dx, dy, e, q⟩ := h
  unfold mulD at e
  split at e
  · split at e
    · rename_i hm
      cases e; cases dx; cases dy
      exact op_mul pins s σ H _ _ v u Q I rx ry ⟨_, _, rfl, rfl, mulOk_at hm, q _ _ .refl ob (.int _)⟩
    · cases e
  · split at e
    · rename_i xs k hc
      obtain ⟨c1, c2, c3, c4⟩ := hc
      cases e
      cases dy
      cases dx with
      | @tup a _ vs ha ra =>
        refine op_repT pins s σ H _ _ v u Q I rx ry ⟨a, k, vs, rfl, rfl, ha, fun e => ?_, c2, c3, by rw [← ra.length]; exact c4, fun p hn => ?_⟩
        · subst e; cases ra; exact c1 rfl
        · exact q _ _ (.laid hn) (ob.laid hn) (.tup (SqT.of upd_same) ((ra.rep _).mono (.laid hn)))
    · cases e
  · split at e
    · rename_i h1
      split at e
      · rename_i hc
        obtain ⟨c1, c2, c3⟩ := hc
        cases e
        cases dy
        obtain ⟨a, vs, rfl, ha, ra⟩ := lstOf_at ob dx h1
        refine op_rep pins s σ H _ _ v u Q I rx ry ⟨a, _, vs, rfl, rfl, ha, c1, c2, by rw [← ra.length, lim_eq]; exact c3, fun p hn => ?_⟩
        exact q _ _ (.laid hn) (ob.laid hn) (.vls ⟨upd_same, ob.free hn⟩ ((ra.rep _).mono (.laid hn)))
      · cases e
    · cases e
  · cases e
theorem op_fdivF : OpR X (binaryOp .FloorDiv) (rF X.K fdivD) := by
  intro pins s σ H vx vy v u Q I rx ry h
  obtain ⟨hp, m, x, y, z, ob, dx, dy, e, q⟩ := h
  unfold fdivD at e
  split at e
  · split at e
    · rename_i hm
      cases e; cases dx; cases dy
      exact op_fdiv pins s σ H _ _ v u Q I rx ry ⟨_, _, rfl, rfl, hm, q _ _ .refl ob (.int _)⟩
    · cases e
  · cases e
theorem op_modF : OpR X (binaryOp .Mod) (rF X.K modD) := by
  intro pins s σ H vx vy v u Q I rx ry h
  obtain ⟨hp, m, x, y, z, ob, dx, dy, e, q⟩ := h
  unfold modD at e
  split at e
  · split at e
    · rename_i hm
      cases e; cases dx; cases dy
      exact op_mod pins s σ H _ _ v u Q I rx ry ⟨_, _, rfl, rfl, hm, q _ _ .refl ob (.int _)⟩
    · cases e
  · cases e
theorem op_powF : OpR X (binaryOp .Pow) (rF X.K powD) := by
  intro pins s σ H vx vy v u Q I rx ry h
  obtain ⟨hp, m, x, y, z, ob, dx, dy, e, q⟩ := h
  unfold powD at e
  split at e
  · split at e
    · rename_i hm
      cases e; cases dx; cases dy
      refine op_pow pins s σ H _ _ v u Q I rx ry ⟨_, _, rfl, rfl, ⟨hm.1, hm.2.1, ?_⟩, q _ _ .refl ob (.int _)⟩
      have e : (2 : Nat) ^ 64 = 18446744073709551616 := by decide
      rw [e]; exact hm.2.2
    · cases e
  · cases e
theorem op_ltF : OpR X (compareOp .Lt) (rF X.K ltD) := by
  intro pins s σ H vx vy v u Q I rx ry h
  obtain ⟨hp, m, x, y, z, ob, dx, dy, e, q⟩ := h
  unfold ltD bl2 ltB at e
  split at e
  · cases e; cases dx; cases dy
    exact op_lt pins s σ H _ _ v u Q I rx ry ⟨_, _, rfl, rfl, q _ _ .refl ob (.bl _)⟩
  · cases e; cases dx; cases dy
    exact op_lt_str pins s σ H _ _ v u Q I rx ry ⟨_, _, rfl, rfl, q _ _ .refl ob (.bl _)⟩
  · cases e
theorem op_intB {o : CmpOp} {f : Int → Int → Bool} (h : OpR X (compareOp o) (rI0 fun i j => .bl (f i j))) : OpR X (compareOp o) (rF X.K (bl2 (intB f))) := by
  intro pins s σ H vx vy v u Q I rx ry hh
  obtain ⟨hp, m, x, y, z, ob, dx, dy, e, q⟩ := hh
  unfold bl2 intB at e
  split at e
  · cases e; cases dx; cases dy
    exact h pins s σ H _ _ v u Q I rx ry ⟨_, _, rfl, rfl, q _ _ .refl ob (.bl _)⟩
  · cases e
theorem op_leF : OpR X (compareOp .LtE) (rF X.K leD) := op_intB op_le
theorem op_gtF : OpR X (compareOp .Gt) (rF X.K gtD) := op_intB op_gt
theorem op_geF : OpR X (compareOp .GtE) (rF X.K geD) := op_intB op_ge
theorem isNon_at {K : PySem.W.Frag} {m : Ma} {H : Hp} {hp : AH} {d : D} {v : V} {b : Bool} (ob : Obs K H m hp) (h : DV K m H d v) (e : isNonD hp d = some b) : decide (v = .non) = b := by
  unfold isNonD at e
  split at e
  · cases e; cases h; rfl
  · cases e; cases h; simp
  · cases e; cases h; simp
  · cases e; cases h; simp
  · cases e; cases h; simp
  · cases e; cases h; simp
  · cases e
  · cases e
  · cases e; cases h; simp
  · split at e
    · cases e
    · rename_i b hn hb
      cases e
      obtain ⟨a, h', _⟩ := ob.get hb (fun z => hn z)
      cases h with
      | ref _ => simp
      | dead q => rw [q] at h'; cases h'
    · cases e
theorem op_isF : OpR X (compareOp .Is) (rF X.K isND) := by
  intro pins s σ H vx vy v u Q I rx ry h
  obtain ⟨hp, m, x, y, z, ob, dx, dy, e, q⟩ := h
  unfold isND bl2 isNB at e
  obtain ⟨b, e1, e2⟩ := Option.map_eq_some_iff.mp e
  subst e2
  split at e1
  · cases dy
    exact op_isN pins s σ H _ _ v u Q I rx ry ⟨rfl, by rw [isNon_at ob dx e1]; exact q _ _ .refl ob (.bl _)⟩
  · cases e1
theorem op_notF : OpR X (compareOp .IsNot) (rF X.K notND) := by
  intro pins s σ H vx vy v u Q I rx ry h
  obtain ⟨hp, m, x, y, z, ob, dx, dy, e, q⟩ := h
  unfold notND bl2 notNB isNB at e
  split at e
  · cases dy
    obtain ⟨b, e1, e2⟩ := Option.map_eq_some_iff.mp e
    subst e2
    obtain ⟨c, e3, e4⟩ := Option.map_eq_some_iff.mp e1
    subst e4
    exact op_notN pins s σ H _ _ v u Q I rx ry ⟨rfl, by rw [isNon_at ob dx e3]; exact q _ _ .refl ob (.bl _)⟩
  · cases e
end
end MP
end

section
set_option maxHeartbeats 2000000
/-! MpSeq: membership, items, slices, tests. -/
namespace MP
open PySem PySem.Spec L2

/-! ### dicts by key -/
def keyOf : D → Option Key
  | .int i => some (.inl i) | .str s => some (.inr s) | _ => none
def keyD : Key → D
  | .inl i => .int i | .inr s => .str s
def valD (kvs : List (Key × D)) (k : Key) : Option D := (kvs.find? fun kv => decide (kv.1 = k)).map (·.2)
theorem keyOf_at {K : PySem.W.Frag} {m : Ma} {H : Hp} {d : D} {v : V} {k : Key} (h : DV K m H d v) (e : keyOf d = some k) : v = kV k := by
  cases h <;> first | (cases e; rfl) | cases e
theorem KVs.val {K : PySem.W.Frag} {m : Ma} {H : Hp} {k : Key} : ∀ {kvs : List (Key × D)} {ws : List (Key × V)}, KVs K m H kvs ws → match valD kvs k with
    | some d => ∃ v, valV ws k = some v ∧ DV K m H d v
    | none => valV ws k = none
  | _, _, .nil => rfl
  | (k', d) :: kvs, (_, v) :: ws, .cons h t => by
    by_cases e : k' = k
    · have e1 : valD ((k', d) :: kvs) k = some d := by simp [valD, List.find?_cons, e]
      rw [e1]
      exact ⟨v, valV_pos e, h⟩
    · have e1 : valD ((k', d) :: kvs) k = valD kvs k := by simp [valD, List.find?_cons, e]
      rw [e1, valV_neg e]
      exact KVs.val t
theorem KVs.length {K : PySem.W.Frag} {m : Ma} {H : Hp} : ∀ {kvs : List (Key × D)} {ws : List (Key × V)}, KVs K m H kvs ws → kvs.length = ws.length
  | _, _, .nil => rfl
  | _, _, .cons _ t => by rw [List.length_cons, List.length_cons, KVs.length t]
def dctOf (hp : AH) (l : Nat) : Option (List (Key × D)) := match hp[l]? with
  | some (.dct kvs) => some kvs
  | some (.dlk kvs) => some kvs
  | _ => none
theorem dctOf_at {K : PySem.W.Frag} {m : Ma} {H : Hp} {hp : AH} {l : Nat} {v : V} {kvs : List (Key × D)} (ob : Obs K H m hp) (h : DV K m H (.ref l) v) (e : dctOf hp l = some kvs) : ∃ a ws, v = .ref a ∧ Rd H a (.dK ws) ∧ KVs K m H kvs ws := by
  unfold dctOf at e
  split at e
  · rename_i q
    cases e
    obtain ⟨a, h', ws, z, r⟩ := ob.get q (by intro z; cases z)
    cases h with
    | ref h2 => rw [h2] at h'; cases h'; exact ⟨_, ws, rfl, .inl z, r⟩
    | dead h2 => rw [h2] at h'; cases h'
  · rename_i q
    cases e
    obtain ⟨a, h', o, ws, z, r⟩ := ob.get q (by intro z; cases z)
    cases h with
    | ref h2 => rw [h2] at h'; cases h'; exact ⟨_, ws, rfl, .inr ⟨o, z⟩, r⟩
    | dead h2 => rw [h2] at h'; cases h'
  · cases e

/-! ### in -/
def hasD (xs : List D) (x : D) : Option Bool := if x.good deepest && D.goods (D.good deepest) xs then some (xs.any fun y => D.eqv y x) else none
def inB (hp : AH) (x : D) : D → Option Bool
  | .str t => match x with
    | .str s => if s.cps.size = 1 then some (decide (s.cps.getD 0 0 ∈ t.cps.toList)) else some (!(Builtin.Str.occurrences t s 0 t.length 1).isEmpty)
    | _ => none
  | .tup ys => hasD ys x
  | .vls ys => hasD ys x
  | .rls ys => hasD ys x
  | .ref l => match hp[l]? with
    | some (.lst ys) => hasD ys x
    | some (.rol ys) => hasD ys x
    | some (.dct kvs) => (keyOf x).map fun k => (valD kvs k).isSome
    | some (.dlk kvs) => (keyOf x).map fun k => (valD kvs k).isSome
    | _ => none
  | _ => none
def ninB : F2B := fun hp x y => (inB hp x y).map fun b => !b
def inD : F2 := bl2 inB
def ninD : F2 := bl2 ninB
theorem eqv_any {n k : Nat} {x : D} (hx : x.good n = true) : ∀ {xs : List D}, D.goods (D.good k) xs = true → (D.pds xs).any (fun y => PyData.eqv y x.pd) = xs.any fun y => D.eqv y x
  | [], _ => rfl
  | y :: ys, h => by
    simp only [D.goods, Bool.and_eq_true] at h
    simp only [D.pds, List.any_cons, D.eqv_pd _ _ _ _ h.1 hx, eqv_any hx h.2]
theorem str_one {s : Str} (h : s.cps.size = 1) : s = ⟨#[s.cps.getD 0 0]⟩ := by
  obtain ⟨a⟩ := s
  have h : a.size = 1 := h
  congr 1
  apply Array.ext
  · simpa using h
  · intro i h1 h2
    have : i = 0 := by omega
    subst this
    simp [Array.getD, h]
section
variable {X : Cx}
theorem in_room {n : Nat} {A : Around} {ps : List PyData} {q : PyData} (hr : Room n A) (h : q.depth ≤ deepest) : A.units + 1 + min (PyData.depthAll ps) q.depth < cLine := by
  have h1 := hr.un
  have h2 : min (PyData.depthAll ps) q.depth ≤ q.depth := Nat.min_le_right _ _
  have h3 : deepest = 150 := rfl
  omega
theorem op_inF {n : Nat} (hr : Room n X.A) : OpR X (compareOp .In) (rF X.K inD) := by
  intro pins s σ H vx vy v u Q I rx ry h
  obtain ⟨hp, m, x, y, z, ob, dx, dy, e, q⟩ := h
  have hu : X.A.units + 1 < cLine := by have := hr.un; omega
  have lis : ∀ ys b, hasD ys x = some b → z = .bl b → (∃ a vs, vy = .ref a ∧ SqL X.K H a vs ∧ DVs X.K m H ys vs) ∨ (∃ a vs, vy = .ref a ∧ SqT X.K H a vs ∧ DVs X.K m H ys vs) → wpAny (model X.prog X.w) X.A (compareOp .In v u) (EP X pins σ Q) X.xe s := fun ys b e1 e2 hy => by
    unfold hasD at e1
    split at e1
    · rename_i hg
      rw [Bool.and_eq_true] at hg
      cases e1
      subst e2
      obtain ⟨bs, r2⟩ := Dp.reads I _ _ v (D.dp _ _ hg.1 dx) rx
      obtain ⟨l1, l2⟩ := D.good_lay _ _ hg.1
      obtain ⟨l3, l4⟩ := D.goods_lay _ _ hg.2
      rcases hy with ⟨a, vs, rfl, hq, hd⟩ | ⟨a, vs, rfl, hq, hd⟩
      · obtain ⟨as, r1⟩ := Dp.reads I (.list (D.pds ys)) _ u (.lst hq (D.dps _ _ hg.2 hd)) ry
        refine SeqAt.in_list_reads r1 r2 l3 l1 (in_room hr l2) ⟨.bl _, H, I, rfl, ?_⟩
        rw [eqv_any hg.1 hg.2]
        exact q _ _ .refl ob (.bl _)
      · obtain ⟨as, r1⟩ := Dp.reads I (.tuple (D.pds ys)) _ u (.tup hq (D.dps _ _ hg.2 hd)) ry
        refine SeqAt.in_tuple_reads r1 r2 l3 l1 (in_room hr l2) ⟨.bl _, H, I, rfl, ?_⟩
        rw [eqv_any hg.1 hg.2]
        exact q _ _ .refl ob (.bl _)
    · cases e1
  unfold inD bl2 at e
  obtain ⟨b, e1, e2⟩ := Option.map_eq_some_iff.mp e
  subst e2
  unfold inB at e1
  split at e1
  · split at e1
    · cases dx; cases dy
      split at e1
      · rename_i h1
        cases e1
        refine op_in_sign pins s σ H _ _ v u Q I rx ry ⟨_, _, congrArg V.str (str_one h1), rfl, q _ _ .refl ob (.bl _)⟩
      · cases e1
        exact op_in_str pins s σ H _ _ v u Q I rx ry ⟨_, _, rfl, rfl, q _ _ .refl ob (.bl _)⟩
    · cases e1
  · cases dy with
    | tup h1 h2 => exact lis _ _ e1 rfl (.inr ⟨_, _, rfl, h1, h2⟩)
  · cases dy with
    | vls h1 h2 => exact lis _ _ e1 rfl (.inl ⟨_, _, rfl, h1.sq, h2⟩)
  · cases dy with
    | rls h1 h2 => exact lis _ _ e1 rfl (.inl ⟨_, _, rfl, h1.sq, h2⟩)
  · rename_i l
    split at e1
    · rename_i ys h1
      exact lis _ _ e1 rfl (.inl (lstOfR_at ob dy (by simp only [lstOfR, h1])))
    · rename_i ys h1
      exact lis _ _ e1 rfl (.inl (lstOfR_at ob dy (by simp only [lstOfR, h1])))
    · rename_i kvs h1
      obtain ⟨k, e3, e4⟩ := Option.map_eq_some_iff.mp e1
      subst e4
      obtain ⟨a, ws, rfl, hr, hk⟩ := dctOf_at ob dy (show dctOf hp l = some kvs by simp only [dctOf, h1])
      cases (show u = Value.ref a from ry)
      have ek := keyOf_at dx e3
      subst ek
      refine d_in hu I (.inl ⟨ws, k, hr, rfl, rfl⟩) rx fun s' I' => ⟨.bl _, H, I', rfl, ?_⟩
      have hv := hk.val (k := k)
      split at hv
      · rename_i d hd
        obtain ⟨w, hw, _⟩ := hv
        rw [hw]
        rw [hd] at q
        exact q _ _ .refl ob (.bl _)
      · rename_i hd
        rw [hv]
        rw [hd] at q
        exact q _ _ .refl ob (.bl _)
    · rename_i kvs h1
      obtain ⟨k, e3, e4⟩ := Option.map_eq_some_iff.mp e1
      subst e4
      obtain ⟨a, ws, rfl, hr, hk⟩ := dctOf_at ob dy (show dctOf hp l = some kvs by simp only [dctOf, h1])
      cases (show u = Value.ref a from ry)
      have ek := keyOf_at dx e3
      subst ek
      refine d_in hu I (.inl ⟨ws, k, hr, rfl, rfl⟩) rx fun s' I' => ⟨.bl _, H, I', rfl, ?_⟩
      have hv := hk.val (k := k)
      split at hv
      · rename_i d hd
        obtain ⟨w, hw, _⟩ := hv
        rw [hw]
        rw [hd] at q
        exact q _ _ .refl ob (.bl _)
      · rename_i hd
        rw [hv]
        rw [hd] at q
        exact q _ _ .refl ob (.bl _)
    · cases e1
  · cases e1
theorem op_ninF {n : Nat} (hr : Room n X.A) : OpR X (compareOp .NotIn) (rF X.K ninD) := by
  intro pins s σ H vx vy v u Q I rx ry h
  obtain ⟨hp, m, x, y, z, ob, dx, dy, e, q⟩ := h
  have hu : X.A.units + 1 < cLine := by have := hr.un; omega
  have lis : ∀ ys b, hasD ys x = some b → z = .bl (!b) → (∃ a vs, vy = .ref a ∧ SqL X.K H a vs ∧ DVs X.K m H ys vs) ∨ (∃ a vs, vy = .ref a ∧ SqT X.K H a vs ∧ DVs X.K m H ys vs) → wpAny (model X.prog X.w) X.A (compareOp .NotIn v u) (EP X pins σ Q) X.xe s := fun ys b e1 e2 hy => by
    unfold hasD at e1
    split at e1
    · rename_i hg
      rw [Bool.and_eq_true] at hg
      cases e1
      subst e2
      obtain ⟨bs, r2⟩ := Dp.reads I _ _ v (D.dp _ _ hg.1 dx) rx
      obtain ⟨l1, l2⟩ := D.good_lay _ _ hg.1
      obtain ⟨l3, l4⟩ := D.goods_lay _ _ hg.2
      rcases hy with ⟨a, vs, rfl, hq, hd⟩ | ⟨a, vs, rfl, hq, hd⟩
      · obtain ⟨as, r1⟩ := Dp.reads I (.list (D.pds ys)) _ u (.lst hq (D.dps _ _ hg.2 hd)) ry
        refine SeqAt.notIn_list_reads r1 r2 l3 l1 (in_room hr l2) ⟨.bl _, H, I, rfl, ?_⟩
        rw [eqv_any hg.1 hg.2]
        exact q _ _ .refl ob (.bl _)
      · obtain ⟨as, r1⟩ := Dp.reads I (.tuple (D.pds ys)) _ u (.tup hq (D.dps _ _ hg.2 hd)) ry
        refine SeqAt.notIn_tuple_reads r1 r2 l3 l1 (in_room hr l2) ⟨.bl _, H, I, rfl, ?_⟩
        rw [eqv_any hg.1 hg.2]
        exact q _ _ .refl ob (.bl _)
    · cases e1
  unfold ninD bl2 ninB at e
  obtain ⟨b, e1', e2⟩ := Option.map_eq_some_iff.mp e
  subst e2
  obtain ⟨c, e1, e2⟩ := Option.map_eq_some_iff.mp e1'
  subst e2
  clear e1' e
  unfold inB at e1
  split at e1
  · split at e1
    · cases dx; cases dy
      split at e1
      · rename_i h1
        cases e1
        refine op_notIn_sign pins s σ H _ _ v u Q I rx ry ⟨_, _, congrArg V.str (str_one h1), rfl, q _ _ .refl ob (.bl _)⟩
      · cases e1
        exact op_notin_str pins s σ H _ _ v u Q I rx ry ⟨_, _, rfl, rfl, q _ _ .refl ob (.bl _)⟩
    · cases e1
  · cases dy with
    | tup h1 h2 => exact lis _ _ e1 rfl (.inr ⟨_, _, rfl, h1, h2⟩)
  · cases dy with
    | vls h1 h2 => exact lis _ _ e1 rfl (.inl ⟨_, _, rfl, h1.sq, h2⟩)
  · cases dy with
    | rls h1 h2 => exact lis _ _ e1 rfl (.inl ⟨_, _, rfl, h1.sq, h2⟩)
  · rename_i l
    split at e1
    · rename_i ys h1
      exact lis _ _ e1 rfl (.inl (lstOfR_at ob dy (by simp only [lstOfR, h1])))
    · rename_i ys h1
      exact lis _ _ e1 rfl (.inl (lstOfR_at ob dy (by simp only [lstOfR, h1])))
    · rename_i kvs h1
      obtain ⟨k, e3, e4⟩ := Option.map_eq_some_iff.mp e1
      subst e4
      obtain ⟨a, ws, rfl, hr, hk⟩ := dctOf_at ob dy (show dctOf hp l = some kvs by simp only [dctOf, h1])
      cases (show u = Value.ref a from ry)
      have ek := keyOf_at dx e3
      subst ek
      refine d_notIn hu I (.inl ⟨ws, k, hr, rfl, rfl⟩) rx fun s' I' => ⟨.bl _, H, I', rfl, ?_⟩
      have hv := hk.val (k := k)
      split at hv
      · rename_i d hd
        obtain ⟨w, hw, _⟩ := hv
        rw [hw]
        rw [hd] at q
        exact q _ _ .refl ob (.bl _)
      · rename_i hd
        rw [hv]
        rw [hd] at q
        exact q _ _ .refl ob (.bl _)
    · rename_i kvs h1
      obtain ⟨k, e3, e4⟩ := Option.map_eq_some_iff.mp e1
      subst e4
      obtain ⟨a, ws, rfl, hr, hk⟩ := dctOf_at ob dy (show dctOf hp l = some kvs by simp only [dctOf, h1])
      cases (show u = Value.ref a from ry)
      have ek := keyOf_at dx e3
      subst ek
      refine d_notIn hu I (.inl ⟨ws, k, hr, rfl, rfl⟩) rx fun s' I' => ⟨.bl _, H, I', rfl, ?_⟩
      have hv := hk.val (k := k)
      split at hv
      · rename_i d hd
        obtain ⟨w, hw, _⟩ := hv
        rw [hw]
        rw [hd] at q
        exact q _ _ .refl ob (.bl _)
      · rename_i hd
        rw [hv]
        rw [hd] at q
        exact q _ _ .refl ob (.bl _)
    · cases e1
  · cases e1
end

/-! ### items -/
def ixSeq (xs : List D) (i : Int) : Option D := atI xs i
def ixD : F2 := fun hp x y => match x with
  | .str s => match y with
    | .int i => if s.length ≤ lim then (atI s.cps.toList i).map fun c => .str ⟨#[c]⟩ else none
    | _ => none
  | .tup xs => match y with
    | .int i => ixSeq xs i
    | _ => none
  | .vls xs => match y with
    | .int i => ixSeq xs i
    | _ => none
  | .rls xs => match y with
    | .int i => ixSeq xs i
    | _ => none
  | .ref l => match hp[l]? with
    | some (.lst xs) => (match y with | .int i => ixSeq xs i | _ => none)
    | some (.rol xs) => (match y with | .int i => ixSeq xs i | _ => none)
    | some (.dct kvs) => (keyOf y).bind fun k => valD kvs k
    | some (.dlk kvs) => (keyOf y).bind fun k => valD kvs k
    | _ => none
  | _ => none
theorem atI_rel {K : PySem.W.Frag} {m : Ma} {H : Hp} {xs : List D} {vs : List V} {i : Int} {d : D} (h : DVs K m H xs vs) (e : atI xs i = some d) : ∃ v, atI vs i = some v ∧ DV K m H d v := by
  unfold atI at e ⊢
  rw [← h.length]
  cases q : ixN xs.length i with
  | none => rw [q] at e; cases e
  | some j =>
    rw [q] at e
    exact h.get e
def rIxF (K : PySem.W.Frag) : R2 := rF K ixD
theorem ix_F {X : Cx} {n : Nat} (hr : Room n X.A) : IxR X (rIxF X.K) := by
  intro value slice pins s σ H vx vy v u Q I rx ry h hs
  obtain ⟨hp, m, x, y, z, ob, dx, dy, e, q⟩ := h
  have hu : X.A.units + 1 < cLine := by have := hr.un; omega
  have lis : ∀ xs i, y = .int i → ixSeq xs i = some z → (∃ a vs, vx = .ref a ∧ SqL X.K H a vs ∧ DVs X.K m H xs vs) → wpAny (model X.prog X.w) X.A (PyProof.Rows.subscriptTail value slice v u) (EP X pins σ Q) X.xe s := fun xs i ey ez hx => by
    obtain ⟨a, vs, rfl, ha, ra⟩ := hx
    subst ey
    cases dy
    obtain ⟨w, hw, rw'⟩ := atI_rel ra ez
    exact ix_list value slice pins s σ H _ _ v u Q I rx ry ⟨a, vs, i, w, rfl, rfl, ha, hw, q _ _ .refl ob rw'⟩ hs
  have dic : ∀ l kvs, dctOf hp l = some kvs → x = .ref l → ((keyOf y).bind fun k => valD kvs k) = some z → wpAny (model X.prog X.w) X.A (PyProof.Rows.subscriptTail value slice v u) (EP X pins σ Q) X.xe s := fun l kvs h1 ex ez => by
    subst ex
    obtain ⟨a, ws, rfl, hd, hk⟩ := dctOf_at ob dx h1
    cases (show v = Value.ref a from rx)
    obtain ⟨k, e3, e4⟩ := Option.bind_eq_some_iff.mp ez
    have ek := keyOf_at dy e3
    subst ek
    have hv := hk.val (k := k)
    rw [e4] at hv
    obtain ⟨w, hw, rw'⟩ := hv
    have g : DGet H a (kV k) (some w) := .inl ⟨ws, k, hd, rfl, hw.symm⟩
    exact PyProof.Rows.tail_any (ops := [.ref a, u]) (dict_typeIs I g) PySem.F.slot_dict_getitem.lookup (d_getItem hu I g ry fun w' s3 I3 rw3 => ⟨w, H, I3, rw3, q _ _ .refl ob rw'⟩) hs
  unfold ixD at e
  split at e
  · split at e
    · split at e
      · rename_i hl
        obtain ⟨c, e1, e2⟩ := Option.map_eq_some_iff.mp e
        subst e2
        cases dx; cases dy
        exact ix_str value slice pins s σ H _ _ v u Q I rx ry ⟨_, _, c, rfl, rfl, by rw [lim_eq]; exact hl, e1, q _ _ .refl ob (.str _)⟩ hs
      · cases e
    · cases e
  · split at e
    · cases dy
      cases dx with
      | @tup a _ vs ha ra =>
        obtain ⟨w, hw, rw'⟩ := atI_rel ra e
        exact ix_tup value slice pins s σ H _ _ v u Q I rx ry ⟨a, vs, _, w, rfl, rfl, ha, hw, q _ _ .refl ob rw'⟩ hs
    · cases e
  · split at e
    · cases dx with
      | vls h1 h2 => exact lis _ _ rfl e ⟨_, _, rfl, h1.sq, h2⟩
    · cases e
  · split at e
    · cases dx with
      | rls h1 h2 => exact lis _ _ rfl e ⟨_, _, rfl, h1.sq, h2⟩
    · cases e
  · rename_i l
    split at e
    · rename_i xs h1
      split at e
      · exact lis _ _ rfl e (lstOfR_at ob dx (by simp only [lstOfR, h1]))
      · cases e
    · rename_i xs h1
      split at e
      · exact lis _ _ rfl e (lstOfR_at ob dx (by simp only [lstOfR, h1]))
      · cases e
    · rename_i kvs h1
      exact dic l kvs (by simp only [dctOf, h1]) rfl e
    · rename_i kvs h1
      exact dic l kvs (by simp only [dctOf, h1]) rfl e
    · cases e
  · cases e
section
variable {X : Cx} {W : WX} {a b : Expr} {da db : DE D} {pos : Pos}
theorem me_ix {n : Nat} (hr : Room n X.A) (ha : ME X W a da) (hb : ME X W b db) (hs : PlainIx b) : ME X W (.Subscript a b pos) (dBin ixD da db) := (pe_ix (ix_F hr) ha hb hs).weak fun _ _ _ h => rF_run h
end

/-! ### slices -/
def cutL {α : Type} (xs : List α) (lo hi : Option Int) : List α := (xs.drop (HT.sIx xs.length 0 lo)).take (HT.sIx xs.length xs.length hi - HT.sIx xs.length 0 lo)
theorem cutL_rel {K : PySem.W.Frag} {m : Ma} {H : Hp} {xs : List D} {vs : List V} (h : DVs K m H xs vs) (lo hi : Option Int) : DVs K m H (cutL xs lo hi) (cutV vs lo hi) := by
  unfold cutL cutV
  rw [← h.length]
  exact (h.drop _).take _
def sliceD (hp : AH) (x : D) (lo hi : Option Int) : Option D := match x with
  | .str s => if s.length ≤ lim then some (.str (cutS s lo hi)) else none
  | .tup xs => some (.tup (cutL xs lo hi))
  | x => (lstOfR hp x).map fun xs => .vls (cutL xs lo hi)
def rSlF (K : PySem.W.Frag) : V → Option Int → Option Int → Hp → VK → Prop := fun vx lo hi H Q => ∃ hp m x z, Obs K H m hp ∧ DV K m H x vx ∧ sliceD hp x lo hi = some z ∧ ∀ v H', Ext K H m H' m → Obs K H' m hp → DV K m H' z v → Q v H'
theorem cut_whole {α : Type} {xs : List α} {lo hi : Option Int} (h : HT.sIx xs.length 0 lo = 0 ∧ HT.sIx xs.length xs.length hi = xs.length) : cutL xs lo hi = xs := by
  unfold cutL
  rw [h.1, h.2]
  simp
theorem sl_F {X : Cx} : SlR X (rSlF X.K) := by
  intro pins s σ H vx v vl vu lo hi sl Q I rx hs pl pu h
  obtain ⟨hp, m, x, z, ob, dx, e, q⟩ := h
  unfold sliceD at e
  split at e
  · split at e
    · rename_i hl
      cases e; cases dx
      exact sl_str pins s σ H _ v vl vu lo hi sl Q I rx hs pl pu ⟨_, rfl, by rw [lim_eq]; exact hl, q _ _ .refl ob (.str _)⟩
    · cases e
  · cases e
    cases dx with
    | @tup a _ vs ha ra =>
      refine sl_tupA pins s σ H _ v vl vu lo hi sl Q I rx hs pl pu ⟨a, vs, rfl, ha, fun hw => ?_, fun _ p hn => ?_⟩
      · rw [cut_whole (by rw [ra.length]; exact hw)] at q
        exact q _ _ .refl ob (.tup ha ra)
      · exact q _ _ (.laid hn) (ob.laid hn) (.tup (SqT.of upd_same) ((cutL_rel ra lo hi).mono (.laid hn)))
  · obtain ⟨xs, h1, e2⟩ := Option.map_eq_some_iff.mp e
    subst e2
    obtain ⟨a, vs, rfl, ha, ra⟩ := lstOfR_at ob dx h1
    refine sl_list pins s σ H _ v vl vu lo hi sl Q I rx hs pl pu ⟨a, vs, rfl, ha, fun p hn => ?_⟩
    exact q _ _ (.laid hn) (ob.laid hn) (.vls ⟨upd_same, ob.free hn⟩ ((cutL_rel ra lo hi).mono (.laid hn)))
/-- a part of a slice -/
def oNone : DE (Option Int) := fun _ hp => some (.val none, hp)
def oSome (d : DE D) : DE (Option Int) := fun env hp => bE (d env hp) fun x h1 => match x with
  | .int i => some (.val (some i), h1)
  | _ => none
abbrev RO : RelT (Option Int) (Option Int) := fun _ _ a b => a = b
theorem _root_.L2.PO.weak {X : Cx} {e : Option Expr} {t t' : TO} (h : PO X e t) (w : ∀ σ H Q, t' σ H Q → t σ H Q) : PO X e t' := ⟨fun pins s σ H Q I q => h.run pins s σ H Q I (w σ H Q q)⟩
abbrev MO (X : Cx) (W : WX) (e : Option Expr) (d : DE (Option Int)) : Prop := PO X e (toR X.K X.mg W RO d)
def dSlice (d : DE D) (lo hi : DE (Option Int)) : DE D := fun env hp => bE (d env hp) fun x h1 => bE (lo env h1) fun l h2 => bE (hi env h2) fun u h3 => match sliceD h3 x l u with
  | some z => some (.val z, h3)
  | none => none
section
variable {X : Cx} {W : WX} {a b : Expr} {da db : DE D} {pos p2 : Pos}
theorem mo_none : MO X W none oNone := by
  refine po_none.weak fun σ H Q h => ?_
  obtain ⟨env, hp, m, s, r, hp', e, p⟩ := h
  cases e
  exact p none H m .refl s.ob rfl
theorem mo_some (h : ME X W a da) : MO X W (some a) (oSome da) := by
  refine (po_some h).weak fun σ H Q h => ?_
  obtain ⟨env, hp, m, s, r, hp', e, p⟩ := h
  refine toR_step s e p fun x hp1 e1 v H1 m1 E1 s1 rv p1 => ?_
  split at e1
  · cases e1
    cases rv
    exact ⟨_, rfl, p1 _ _ _ .refl s1.ob rfl⟩
  · cases e1
theorem me_slice {lo hi : Option Expr} {dl dh : DE (Option Int)} (ha : ME X W a da) (hl : MO X W lo dl) (hu : MO X W hi dh) : ME X W (.Subscript a (.Slice lo hi none p2) pos) (dSlice da dl dh) := by
  refine (pe_slice sl_F ha hl hu).weak fun σ H Q h => ?_
  obtain ⟨env, hp, m, s, r, hp', e, p⟩ := h
  refine toR_step s e p fun x hp1 e1 v H1 m1 E1 s1 rv p1 => ?_
  refine toR_step s1 e1 p1 fun l hp2 e2 l' H2 m2 E2 s2 rl p2 => ?_
  refine toR_step s2 e2 p2 fun u hp3 e3 u' H3 m3 E3 s3 ru p3 => ?_
  cases rl
  cases ru
  split at e3
  · rename_i z hz
    cases e3
    exact ⟨_, m3, x, z, s3.ob, (rv.mono E2).mono E3, hz, fun v' H' E' o' d' => p3 v' H' m3 E' o' d'⟩
  · cases e3
end

/-! ### truth, tests -/
def truD (hp : AH) : D → Option Bool
  | .non => some false
  | .bl b => some b
  | .int i => some (i != 0)
  | .str s => if s.length ≤ lim then some ((s.length : Int) != 0) else none
  | .tup xs => some (!xs.isEmpty)
  | .vls xs => some (!xs.isEmpty)
  | .exn _ => none
  | .exf _ _ _ => none
  | .rls xs => some (!xs.isEmpty)
  | .ref l => match hp[l]? with
    | some (.lst xs) => some (!xs.isEmpty)
    | some (.rol xs) => some (!xs.isEmpty)
    | some (.dct kvs) => some (!kvs.isEmpty)
    | _ => none
theorem isEmpty_len {α β : Type} {xs : List α} {ys : List β} (h : xs.length = ys.length) : xs.isEmpty = ys.isEmpty := by
  cases xs <;> cases ys <;> first | rfl | cases h
theorem truD_at {K : PySem.W.Frag} {m : Ma} {H : Hp} {hp : AH} {d : D} {v : V} {b : Bool} (ob : Obs K H m hp) (h : DV K m H d v) (e : truD hp d = some b) : TruV K v H b := by
  unfold truD at e
  split at e
  · cases e; cases h; rfl
  · cases e; cases h; rfl
  · cases e; cases h; rfl
  · split at e
    · rename_i hl
      cases e; cases h
      exact ⟨by rw [lim_eq]; exact hl, rfl⟩
    · cases e
  · cases e
    cases h with
    | tup h1 h2 => exact .inr (.inl ⟨_, h1, by rw [isEmpty_len h2.length]⟩)
  · cases e
    cases h with
    | vls h1 h2 => exact .inl ⟨_, h1.sq, by rw [isEmpty_len h2.length]⟩
  · cases e
  · cases e
  · cases e
    cases h with
    | rls h1 h2 => exact .inl ⟨_, h1.sq, by rw [isEmpty_len h2.length]⟩
  · split at e
    · rename_i h1
      cases e
      obtain ⟨a, vs, rfl, ha, ra⟩ := lstOfR_at ob h (by simp only [lstOfR, h1]; rfl)
      exact .inl ⟨vs, ha, by rw [isEmpty_len ra.length]⟩
    · rename_i h1
      cases e
      obtain ⟨a, vs, rfl, ha, ra⟩ := lstOfR_at ob h (by simp only [lstOfR, h1]; rfl)
      exact .inl ⟨vs, ha, by rw [isEmpty_len ra.length]⟩
    · rename_i h1
      cases e
      obtain ⟨a, h', ws, z, r⟩ := ob.get h1 (by intro z; cases z)
      cases h with
      | ref h2 => rw [h2] at h'; cases h'; exact .inr (.inr ⟨ws, z, by rw [isEmpty_len r.length]⟩)
      | dead h2 => rw [h2] at h'; cases h'
    · cases e
def tVal (d : DE D) : DE Bool := fun env hp => bE (d env hp) fun x h1 => match truD h1 x with
  | some b => some (.val b, h1)
  | none => none
def tAndD (a b : DE Bool) : DE Bool := fun env hp => bE (a env hp) fun x h1 => if x then b env h1 else some (.val false, h1)
def tOrD (a b : DE Bool) : DE Bool := fun env hp => bE (a env hp) fun x h1 => if x then some (.val true, h1) else b env h1
def tNotD (a : DE Bool) : DE Bool := fun env hp => bE (a env hp) fun x h1 => some (.val (!x), h1)
def dAnd (a b : DE D) : DE D := fun env hp => bE (a env hp) fun x h1 => match truD h1 x with
  | some true => b env h1
  | some false => some (.val x, h1)
  | none => none
def dOr (a b : DE D) : DE D := fun env hp => bE (a env hp) fun x h1 => match truD h1 x with
  | some true => some (.val x, h1)
  | some false => b env h1
  | none => none
def dNot (a : DE D) : DE D := fun env hp => bE (a env hp) fun x h1 => match truD h1 x with
  | some b => some (.val (.bl (!b)), h1)
  | none => none
def tCmpD (f : F2B) (a b : DE D) : DE Bool := fun env hp => bE (a env hp) fun x h1 => bE (b env h1) fun y h2 => match f h2 x y with
  | some k => some (.val k, h2)
  | none => none
def dNeg (a : DE D) : DE D := fun env hp => bE (a env hp) fun x h1 => match x with
  | .int i => some (.val (.int (-i)), h1)
  | _ => none
def dChain (f g : F2B) (a b c : DE D) : DE D := fun env hp => bE (a env hp) fun x h1 => bE (b env h1) fun y h2 => match f h2 x y with
  | some true => bE (c env h2) fun z h3 => match g h3 y z with
    | some k => some (.val (.bl k), h3)
    | none => none
  | some false => some (.val (.bl false), h2)
  | none => none
def tChainD (f g : F2B) (a b c : DE D) : DE Bool := fun env hp => bE (a env hp) fun x h1 => bE (b env h1) fun y h2 => match f h2 x y with
  | some true => bE (c env h2) fun z h3 => match g h3 y z with
    | some k => some (.val k, h3)
    | none => none
  | some false => some (.val false, h2)
  | none => none
def dIf (c : DE Bool) (a b : DE D) : DE D := fun env hp => bE (c env hp) fun x h1 => if x then a env h1 else b env h1
section
variable {X : Cx} {W : WX} {a b c : Expr} {da db : DE D} {ta tb tc : DE Bool} {pos : Pos} {rest : List Expr}
theorem mt_val (h : ME X W a da) (he : ∀ whole, isTrue a X.env whole = (do let v ← whole; standAt a.pos; holding [v] (truthy v))) : MT X W a (tVal da) := by
  refine (pt_truth h he).weak fun σ H Q h => ?_
  obtain ⟨env, hp, m, s, r, hp', e, p⟩ := h
  refine toR_step s e p fun x hp1 e1 v H1 m1 E1 s1 rv p1 => ?_
  split at e1
  · rename_i b hb
    cases e1
    exact ⟨b, truD_at s1.ob rv hb, p1 _ _ _ .refl s1.ob rfl⟩
  · cases e1
theorem mt_cmp {o : CmpOp} {f : F2B} (hf : OpR X (compareOp o) (rF X.K (bl2 f))) (ha : ME X W a da) (hb : ME X W b db) (hm : behindInMarks o b = false) : MT X W (.Compare a [o] [b] pos) (tCmpD f da db) := by
  refine (pt_cmpR hf ha hb hm).weak fun σ H Q h => ?_
  obtain ⟨env, hp, m, s, r, hp', e, p⟩ := h
  refine toR_step s e p fun x hp1 e1 v H1 m1 E1 s1 rv p1 => ?_
  refine toR_step s1 e1 p1 fun y hp2 e2 u H2 m2 E2 s2 ru p2 => ?_
  split at e2
  · rename_i k hk
    cases e2
    refine ⟨_, m2, x, y, .bl k, s2.ob, rv.mono E2, ru, by unfold bl2; rw [hk]; rfl, fun v' H' E' o' d' => ?_⟩
    cases d'
    exact ⟨_, rfl, p2 _ _ _ E' o' rfl⟩
  · cases e2
theorem mw_and1 (ha : MT X W a ta) : MW X W (.BoolOp .And [a] pos) ta := pw_and1 ha
theorem mw_or1 (ha : MT X W a ta) : MW X W (.BoolOp .Or [a] pos) ta := pw_or1 ha
theorem mw_and (ha : MT X W a ta) (hb : MW X W (.BoolOp .And (b :: rest) pos) tb) : MW X W (.BoolOp .And (a :: b :: rest) pos) (tAndD ta tb) := by
  refine (pw_and ha hb).weak fun σ H Q h => ?_
  obtain ⟨env, hp, m, s, r, hp', e, p⟩ := h
  refine toR_step s e p fun x hp1 e1 v H1 m1 E1 s1 rv p1 => ?_
  cases rv
  cases x with
  | true => exact ⟨env, hp1, m1, s1, _, _, e1, p1⟩
  | false => cases e1; exact p1 _ _ _ .refl s1.ob rfl
theorem mw_or (ha : MT X W a ta) (hb : MW X W (.BoolOp .Or (b :: rest) pos) tb) : MW X W (.BoolOp .Or (a :: b :: rest) pos) (tOrD ta tb) := by
  refine (pw_or ha hb).weak fun σ H Q h => ?_
  obtain ⟨env, hp, m, s, r, hp', e, p⟩ := h
  refine toR_step s e p fun x hp1 e1 v H1 m1 E1 s1 rv p1 => ?_
  cases rv
  cases x with
  | false => exact ⟨env, hp1, m1, s1, _, _, e1, p1⟩
  | true => cases e1; exact p1 _ _ _ .refl s1.ob rfl
theorem mt_bool {op : BoolOp} {vs : List Expr} (h : MW X W (.BoolOp op vs pos) ta) : MT X W (.BoolOp op vs pos) ta := h.pt
theorem mt_not (ha : MT X W a ta) : MT X W (.UnaryOp .Not a pos) (tNotD ta) := by
  refine (pt_not ha).weak fun σ H Q h => ?_
  obtain ⟨env, hp, m, s, r, hp', e, p⟩ := h
  refine toR_step s e p fun x hp1 e1 v H1 m1 E1 s1 rv p1 => ?_
  cases rv
  cases e1
  exact p1 _ _ _ .refl s1.ob rfl
theorem me_one {op : BoolOp} (ha : ME X W a da) : ME X W (.BoolOp op [a] pos) da := pe_one ha
theorem me_and (ha : ME X W a da) (hb : ME X W (.BoolOp .And (b :: rest) pos) db) : ME X W (.BoolOp .And (a :: b :: rest) pos) (dAnd da db) := by
  refine (pe_andT ha hb).weak fun σ H Q h => ?_
  obtain ⟨env, hp, m, s, r, hp', e, p⟩ := h
  refine toR_step s e p fun x hp1 e1 v H1 m1 E1 s1 rv p1 => ?_
  split at e1
  · rename_i hk
    exact ⟨true, truD_at s1.ob rv hk, ⟨env, hp1, m1, s1, _, _, e1, p1⟩⟩
  · rename_i hk
    cases e1
    exact ⟨false, truD_at s1.ob rv hk, p1 _ _ _ .refl s1.ob rv⟩
  · cases e1
theorem me_or (ha : ME X W a da) (hb : ME X W (.BoolOp .Or (b :: rest) pos) db) : ME X W (.BoolOp .Or (a :: b :: rest) pos) (dOr da db) := by
  refine (pe_orT ha hb).weak fun σ H Q h => ?_
  obtain ⟨env, hp, m, s, r, hp', e, p⟩ := h
  refine toR_step s e p fun x hp1 e1 v H1 m1 E1 s1 rv p1 => ?_
  split at e1
  · rename_i hk
    cases e1
    exact ⟨true, truD_at s1.ob rv hk, p1 _ _ _ .refl s1.ob rv⟩
  · rename_i hk
    exact ⟨false, truD_at s1.ob rv hk, ⟨env, hp1, m1, s1, _, _, e1, p1⟩⟩
  · cases e1
theorem me_not (ha : ME X W a da) : ME X W (.UnaryOp .Not a pos) (dNot da) := by
  refine (pe_notT ha).weak fun σ H Q h => ?_
  obtain ⟨env, hp, m, s, r, hp', e, p⟩ := h
  refine toR_step s e p fun x hp1 e1 v H1 m1 E1 s1 rv p1 => ?_
  split at e1
  · rename_i k hk
    cases e1
    exact ⟨k, truD_at s1.ob rv hk, p1 _ _ _ .refl s1.ob (.bl _)⟩
  · cases e1
theorem me_if (hc : MT X W c tc) (ha : ME X W a da) (hb : ME X W b db) : ME X W (.IfExp c a b pos) (dIf tc da db) := by
  refine (pe_ifExp hc ha hb).weak fun σ H Q h => ?_
  obtain ⟨env, hp, m, s, r, hp', e, p⟩ := h
  refine toR_step s e p fun x hp1 e1 v H1 m1 E1 s1 rv p1 => ?_
  cases rv
  cases x with
  | true => exact ⟨env, hp1, m1, s1, _, _, e1, p1⟩
  | false => exact ⟨env, hp1, m1, s1, _, _, e1, p1⟩
theorem me_neg (ha : ME X W a da) : ME X W (.UnaryOp .USub a pos) (dNeg da) := by
  refine (pe_un un_neg ha).weak fun σ H Q h => ?_
  obtain ⟨env, hp, m, s, r, hp', e, p⟩ := h
  refine toR_step s e p fun x hp1 e1 v H1 m1 E1 s1 rv p1 => ?_
  split at e1
  · cases e1
    cases rv
    exact ⟨_, rfl, p1 _ _ _ .refl s1.ob (.int _)⟩
  · cases e1
/-- a < b < c -/
theorem me_chain {o o' : CmpOp} {f g : F2B} {dc : DE D} (hf : OpR X (compareOp o) (rF X.K (bl2 f))) (hg : OpR X (compareOp o') (rF X.K (bl2 g))) (ha : ME X W a da) (hb : ME X W b db) (hc : ME X W c dc) (hm : behindInMarks o' c = false) :
    ME X W (.Compare a [o, o'] [b, c] pos) (dChain f g da db dc) := by
  refine (pe_chain hf hg ha hb hc (by rw [show lastMarks [o, o'] [b, c] = behindInMarks o' c from by with_unfolding_all rfl]; exact hm)).weak fun σ H Q h => ?_
  obtain ⟨env, hp, m, s, r, hp', e, p⟩ := h
  refine toR_step s e p fun x hp1 e1 v H1 m1 E1 s1 rv p1 => ?_
  refine toR_step s1 e1 p1 fun y hp2 e2 u H2 m2 E2 s2 ru p2 => ?_
  split at e2
  · rename_i hk
    refine ⟨_, m2, x, y, .bl true, s2.ob, rv.mono E2, ru, by unfold bl2; rw [hk]; rfl, fun v' H' E' o' d' => ?_⟩
    cases d'
    refine ⟨true, rfl, iteT ?_⟩
    refine toR_step (s2.step E' o') e2 (p2.mono E') fun z hp3 e3 w H3 m3 E3 s3 rw' p3 => ?_
    split at e3
    · rename_i k2 hk2
      cases e3
      exact ⟨_, m3, y, z, .bl k2, s3.ob, (ru.mono E').mono E3, rw', by unfold bl2; rw [hk2]; rfl, fun v' H' E' o' d' => p3 _ _ _ E' o' d'⟩
    · cases e3
  · rename_i hk
    cases e2
    refine ⟨_, m2, x, y, .bl false, s2.ob, rv.mono E2, ru, by unfold bl2; rw [hk]; rfl, fun v' H' E' o' d' => ?_⟩
    cases d'
    exact ⟨false, rfl, iteF (p2 _ _ _ E' o' (.bl _))⟩
  · cases e2
theorem mt_chain {o o' : CmpOp} {f g : F2B} {dc : DE D} (hf : OpR X (compareOp o) (rF X.K (bl2 f))) (hg : OpR X (compareOp o') (rF X.K (bl2 g))) (ha : ME X W a da) (hb : ME X W b db) (hc : ME X W c dc) (hm : behindInMarks o' c = false) :
    MT X W (.Compare a [o, o'] [b, c] pos) (tChainD f g da db dc) := by
  refine (pt_chain hf hg ha hb hc (by rw [show lastMarks [o, o'] [b, c] = behindInMarks o' c from by with_unfolding_all rfl]; exact hm)).weak fun σ H Q h => ?_
  obtain ⟨env, hp, m, s, r, hp', e, p⟩ := h
  refine toR_step s e p fun x hp1 e1 v H1 m1 E1 s1 rv p1 => ?_
  refine toR_step s1 e1 p1 fun y hp2 e2 u H2 m2 E2 s2 ru p2 => ?_
  split at e2
  · rename_i hk
    refine ⟨_, m2, x, y, .bl true, s2.ob, rv.mono E2, ru, by unfold bl2; rw [hk]; rfl, fun v' H' E' o' d' => ?_⟩
    cases d'
    refine ⟨true, rfl, iteT ?_⟩
    refine toR_step (s2.step E' o') e2 (p2.mono E') fun z hp3 e3 w H3 m3 E3 s3 rw' p3 => ?_
    split at e3
    · rename_i k2 hk2
      cases e3
      refine ⟨_, m3, y, z, .bl k2, s3.ob, (ru.mono E').mono E3, rw', by unfold bl2; rw [hk2]; rfl, fun v' H' E' o' d' => ?_⟩
      cases d'
      exact ⟨_, rfl, p3 _ _ _ E' o' rfl⟩
    · cases e3
  · rename_i hk
    cases e2
    refine ⟨_, m2, x, y, .bl false, s2.ob, rv.mono E2, ru, by unfold bl2; rw [hk]; rfl, fun v' H' E' o' d' => ?_⟩
    cases d'
    exact ⟨false, rfl, iteF ⟨false, rfl, p2 _ _ _ E' o' rfl⟩⟩
  · cases e2
end
end MP
end

section
set_option maxHeartbeats 2000000
/-! MpCall: built-ins, methods, calls of defs. -/
namespace MP
open PySem PySem.Spec L2

/-! ### calls of built-ins by values -/
abbrev FC := AH → List D → Option D
def rCF (K : PySem.W.Frag) (f : FC) : List V → Hp → VK → Prop := fun vs H Q => ∃ hp m xs z, Obs K H m hp ∧ DVs K m H xs vs ∧ f hp xs = some z ∧ ∀ v H', Ext K H m H' m → Obs K H' m hp → DV K m H' z v → Q v H'
def dCB (f : FC) (a : DE (List D)) : DE D := fun env hp => bE (a env hp) fun xs h1 => match f h1 xs with
  | some z => some (.val z, h1)
  | none => none
section
variable {X : Cx} {W : WX} {e : Expr} {es : List Expr} {da : DE (List D)} {f : FC} {x : Str} {p pos : Pos} {id T : String}
theorem rCF_run {σ : St} {H : Hp} {Q : VK} (h : toR X.K X.mg W (RD X.K) (dCB f da) σ H Q) : tCB (rCF X.K f) (toR X.K X.mg W (RA X.K) da) σ H Q := by
  obtain ⟨env, hp, m, s, r, hp', e, p⟩ := h
  refine toR_step s e p fun xs hp1 e1 v H1 m1 E1 s1 rv p1 => ?_
  split at e1
  · rename_i z hz
    cases e1
    exact ⟨_, m1, xs, z, s1.ob, rv, hz, fun v' H' E' o' d' => p1 v' H' m1 E' o' d'⟩
  · cases e1
theorem me_callB (hc : CallR X (.builtin id) (rCF X.K f)) (hg : Gl X x) (hm : X.mg x = none) (hv : bootBuiltins x = some (.builtin id)) (ha : MA X W (e :: es) da) (hn : x ≠ "__name__" := by decide) (hdb : (x == ("__debug__" : Str)) = false := by decide)
    (hs : starEach (e :: es) X.env = (false, eval e X.env) :: starEach es X.env := by rfl) (hpl : (backTo pos (starEach es X.env)).any (·.1) = false := by rfl) : ME X W (.Call (.Name x p) (e :: es) [] pos) (dCB f da) := by
  refine PE.weak (t := tCB (rCF X.K f) (toR X.K X.mg W (RA X.K) da)) ?_ fun _ _ _ h => rCF_run h
  first
    | exact pe_callB hc hg hm hv ha hn hdb hs hpl
    | exact pe_callB hc hg hm hv ha hn hdb hs
theorem me_callTy (hc : CallR X (.type T) (rCF X.K f)) (hg : Gl X x) (hm : X.mg x = none) (hv : bootBuiltins x = some (.type T)) (ha : MA X W (e :: es) da) (hn : x ≠ "__name__" := by decide) (hdb : (x == ("__debug__" : Str)) = false := by decide)
    (hs : starEach (e :: es) X.env = (false, eval e X.env) :: starEach es X.env := by rfl) (hpl : (backTo pos (starEach es X.env)).any (·.1) = false := by rfl) : ME X W (.Call (.Name x p) (e :: es) [] pos) (dCB f da) := by
  refine PE.weak (t := tCB (rCF X.K f) (toR X.K X.mg W (RA X.K) da)) ?_ fun _ _ _ h => rCF_run h
  first
    | exact pe_callTy hc hg hm hv ha hn hdb hs hpl
    | exact pe_callTy hc hg hm hv ha hn hdb hs
end
/-- the items of a list, the items of a tuple -/
def seqOf (hp : AH) : D → Option (List D)
  | .tup xs => some xs
  | d => lstOfR hp d
theorem seqOf_at {K : PySem.W.Frag} {H : Hp} {m : Ma} {hp : AH} {d : D} {v : V} {xs : List D} (ob : Obs K H m hp) (h : DV K m H d v) (e : seqOf hp d = some xs) : ∃ a vs, v = .ref a ∧ (SqL K H a vs ∨ SqT K H a vs) ∧ DVs K m H xs vs := by
  unfold seqOf at e
  split at e
  · cases e
    cases h with
    | tup h1 h2 => exact ⟨_, _, rfl, .inr h1, h2⟩
  · obtain ⟨a, vs, rfl, h1, h2⟩ := lstOfR_at ob h e
    exact ⟨a, vs, rfl, .inl h1, h2⟩
def lenD : FC
  | hp, [d] => match d with
    | .str s => if s.length ≤ lim then some (.int s.length) else none
    | .ref l => match hp[l]? with
      | some (.lst xs) => some (.int xs.length)
      | some (.rol xs) => some (.int xs.length)
      | some (.dct kvs) => some (.int kvs.length)
      | _ => none
    | .tup xs => some (.int xs.length)
    | .vls xs => some (.int xs.length)
    | .rls xs => some (.int xs.length)
    | _ => none
  | _, _ => none
def intF : FC
  | _, [.int i] => some (.int i)
  | _, [.bl b] => some (.int (if b then 1 else 0))
  | _, _ => none
def strF : FC
  | _, [.int i] => if i.natAbs.log2 < 1920 then some (.str (toString i)) else none
  | _, _ => none
def tupleF : FC
  | hp, [.tup xs] => some (.tup xs)
  | hp, [d] => (lstOfR hp d).map .tup
  | _, _ => none
def listF : FC
  | hp, [d] => (seqOf hp d).map .vls
  | _, _ => none
def blsOf : List D → Option (List Bool)
  | [] => some []
  | .bl b :: r => (blsOf r).map (b :: ·)
  | _ => none
def intsOf : List D → Option (List Int)
  | [] => some []
  | .int b :: r => (intsOf r).map (b :: ·)
  | _ => none
def allF : FC
  | hp, [d] => (lstOfR hp d).bind fun xs => (blsOf xs).map fun bs => .bl (bs.all id)
  | _, _ => none
def anyF : FC
  | hp, [d] => (lstOfR hp d).bind fun xs => (blsOf xs).map fun bs => .bl (bs.any id)
  | _, _ => none
def sumF : FC
  | hp, [d] => (lstOfR hp d).bind fun xs => (intsOf xs).map fun ns => .int ns.sum
  | _, _ => none
def min2F : FC
  | _, [.int i, .int j] => some (.int (if j < i then j else i))
  | _, _ => none
def max2F : FC
  | _, [.int i, .int j] => some (.int (if j > i then j else i))
  | _, _ => none
theorem blsOf_at {K : PySem.W.Frag} {m : Ma} {H : Hp} : ∀ {xs : List D} {vs : List V} {bs : List Bool}, DVs K m H xs vs → blsOf xs = some bs → vs = bs.map V.bl
  | _, _, _, .nil, e => by cases e; rfl
  | d :: ds, _, _, .cons h t, e => by
    cases h <;> first
      | (cases e; done)
      | (simp only [blsOf] at e
         obtain ⟨r, e1, e2⟩ := Option.map_eq_some_iff.mp e
         subst e2
         rw [blsOf_at t e1]
         rfl)
theorem intsOf_at {K : PySem.W.Frag} {m : Ma} {H : Hp} : ∀ {xs : List D} {vs : List V} {bs : List Int}, DVs K m H xs vs → intsOf xs = some bs → vs = bs.map V.int
  | _, _, _, .nil, e => by cases e; rfl
  | d :: ds, _, _, .cons h t, e => by
    cases h <;> first
      | (cases e; done)
      | (simp only [intsOf] at e
         obtain ⟨r, e1, e2⟩ := Option.map_eq_some_iff.mp e
         subst e2
         rw [intsOf_at t e1]
         rfl)
theorem DVs.one {K : PySem.W.Frag} {m : Ma} {H : Hp} {d : D} {vs : List V} (h : DVs K m H [d] vs) : ∃ v, vs = [v] ∧ DV K m H d v := by
  cases h with
  | cons h t => cases t; exact ⟨_, rfl, h⟩
theorem DVs.two {K : PySem.W.Frag} {m : Ma} {H : Hp} {d e : D} {vs : List V} (h : DVs K m H [d, e] vs) : ∃ v w, vs = [v, w] ∧ DV K m H d v ∧ DV K m H e w := by
  cases h with
  | cons h t =>
    obtain ⟨w, rfl, q⟩ := t.one
    exact ⟨_, w, rfl, h, q⟩
section
variable {X : Cx}
theorem cr_lenF : CallR X (.builtin "len") (rCF X.K lenD) := by
  intro pins s σ H vs us Q I r h
  obtain ⟨hp, m, xs, z, ob, dx, e, q⟩ := h
  unfold lenD at e
  split at e
  · rename_i d
    obtain ⟨v, rfl, dv⟩ := dx.one
    split at e
    · split at e
      · rename_i hl
        cases e; cases dv
        exact call_len pins s σ H _ us Q I r ⟨_, _, rfl, ⟨by rw [lim_eq]; exact hl, rfl⟩, q _ _ .refl ob (.int _)⟩
      · cases e
    · rename_i l
      split at e
      · rename_i h1
        cases e
        obtain ⟨a, vs, rfl, ha, ra⟩ := lstOfR_at ob dv (by simp only [lstOfR, h1]; rfl)
        exact call_len pins s σ H _ us Q I r ⟨_, _, rfl, .inl ⟨vs, ha, rfl⟩, by rw [← ra.length]; exact q _ _ .refl ob (.int _)⟩
      · rename_i h1
        cases e
        obtain ⟨a, vs, rfl, ha, ra⟩ := lstOfR_at ob dv (by simp only [lstOfR, h1]; rfl)
        exact call_len pins s σ H _ us Q I r ⟨_, _, rfl, .inl ⟨vs, ha, rfl⟩, by rw [← ra.length]; exact q _ _ .refl ob (.int _)⟩
      · rename_i h1
        cases e
        obtain ⟨a, h', ws, z, rk⟩ := ob.get h1 (by intro z; cases z)
        cases dv with
        | ref h2 =>
          rw [h2] at h'; cases h'
          exact call_lenD pins s σ H _ us Q I r ⟨_, ws, rfl, z, by rw [← rk.length]; exact q _ _ .refl ob (.int _)⟩
        | dead h2 => rw [h2] at h'; cases h'
      · cases e
    · cases e
      cases dv with
      | tup h1 h2 => exact call_len pins s σ H _ us Q I r ⟨_, _, rfl, .inr ⟨_, h1, rfl⟩, by rw [← h2.length]; exact q _ _ .refl ob (.int _)⟩
    · cases e
      cases dv with
      | vls h1 h2 => exact call_len pins s σ H _ us Q I r ⟨_, _, rfl, .inl ⟨_, h1.sq, rfl⟩, by rw [← h2.length]; exact q _ _ .refl ob (.int _)⟩
    · cases e
      cases dv with
      | rls h1 h2 => exact call_len pins s σ H _ us Q I r ⟨_, _, rfl, .inl ⟨_, h1.sq, rfl⟩, by rw [← h2.length]; exact q _ _ .refl ob (.int _)⟩
    · cases e
  · cases e
theorem cr_intF : CallR X (.type "int") (rCF X.K intF) := by
  intro pins s σ H vs us Q I r h
  obtain ⟨hp, m, xs, z, ob, dx, e, q⟩ := h
  unfold intF at e
  split at e
  · cases e
    obtain ⟨v, rfl, dv⟩ := dx.one
    cases dv
    exact call_int1 pins s σ H _ us Q I r (.inl ⟨_, rfl, q _ _ .refl ob (.int _)⟩)
  · cases e
    obtain ⟨v, rfl, dv⟩ := dx.one
    cases dv
    exact call_int1 pins s σ H _ us Q I r (.inr ⟨_, rfl, q _ _ .refl ob (.int _)⟩)
  · cases e
theorem cr_strF : CallR X (.type "str") (rCF X.K strF) := by
  intro pins s σ H vs us Q I r h
  obtain ⟨hp, m, xs, z, ob, dx, e, q⟩ := h
  unfold strF at e
  split at e
  · split at e
    · rename_i hl
      cases e
      obtain ⟨v, rfl, dv⟩ := dx.one
      cases dv
      exact call_str_int pins s σ H _ us Q I r ⟨_, rfl, hl, q _ _ .refl ob (.str _)⟩
    · cases e
  · cases e
theorem cr_tupleF : CallR X (.type "tuple") (rCF X.K tupleF) := by
  intro pins s σ H vs us Q I r h
  obtain ⟨hp, m, xs, z, ob, dx, e, q⟩ := h
  unfold tupleF at e
  split at e
  · cases e
    obtain ⟨v, rfl, dv⟩ := dx.one
    cases dv with
    | tup h1 h2 => exact call_tuple_of pins s σ H _ us Q I r ⟨_, _, rfl, .inr ⟨h1, q _ _ .refl ob (.tup h1 h2)⟩⟩
  · obtain ⟨ys, e1, e2⟩ := Option.map_eq_some_iff.mp e
    subst e2
    obtain ⟨v, rfl, dv⟩ := dx.one
    obtain ⟨a, vs, rfl, ha, ra⟩ := lstOfR_at ob dv e1
    exact call_tuple_of pins s σ H _ us Q I r ⟨_, _, rfl, .inl ⟨ha, fun l hn => q _ _ (.laid hn) (ob.laid hn) (.tup (SqT.of upd_same) (ra.mono (.laid hn)))⟩⟩
  · cases e
theorem cr_listF : CallR X (.type "list") (rCF X.K listF) := by
  intro pins s σ H vs us Q I r h
  obtain ⟨hp, m, xs, z, ob, dx, e, q⟩ := h
  unfold listF at e
  split at e
  · obtain ⟨ys, e1, e2⟩ := Option.map_eq_some_iff.mp e
    subst e2
    obtain ⟨v, rfl, dv⟩ := dx.one
    obtain ⟨a, vs, rfl, ha, ra⟩ := seqOf_at ob dv e1
    exact call_list_of pins s σ H _ us Q I r ⟨_, _, rfl, ha, fun l hn => q _ _ (.laid hn) (ob.laid hn) (.vls ⟨upd_same, ob.free hn⟩ (ra.mono (.laid hn)))⟩
  · cases e
theorem cr_allF (hc : X.calm = true) : CallR X (.builtin "all") (rCF X.K allF) := by
  intro pins s σ H vs us Q I r h
  obtain ⟨hp, m, xs, z, ob, dx, e, q⟩ := h
  unfold allF at e
  split at e
  · obtain ⟨ys, e1, e2⟩ := Option.bind_eq_some_iff.mp e
    obtain ⟨bs, e3, e4⟩ := Option.map_eq_some_iff.mp e2
    subst e4
    obtain ⟨v, rfl, dv⟩ := dx.one
    obtain ⟨a, vs, rfl, ha, ra⟩ := lstOfR_at ob dv e1
    rw [blsOf_at ra e3] at ha
    exact cr_all hc pins s σ H _ us Q I r ⟨_, _, rfl, ha, q _ _ .refl ob (.bl _)⟩
  · cases e
theorem cr_anyF (hc : X.calm = true) : CallR X (.builtin "any") (rCF X.K anyF) := by
  intro pins s σ H vs us Q I r h
  obtain ⟨hp, m, xs, z, ob, dx, e, q⟩ := h
  unfold anyF at e
  split at e
  · obtain ⟨ys, e1, e2⟩ := Option.bind_eq_some_iff.mp e
    obtain ⟨bs, e3, e4⟩ := Option.map_eq_some_iff.mp e2
    subst e4
    obtain ⟨v, rfl, dv⟩ := dx.one
    obtain ⟨a, vs, rfl, ha, ra⟩ := lstOfR_at ob dv e1
    rw [blsOf_at ra e3] at ha
    exact cr_any hc pins s σ H _ us Q I r ⟨_, _, rfl, ha, q _ _ .refl ob (.bl _)⟩
  · cases e
theorem cr_sumF (hc : X.calm = true) : CallR X (.builtin "sum") (rCF X.K sumF) := by
  intro pins s σ H vs us Q I r h
  obtain ⟨hp, m, xs, z, ob, dx, e, q⟩ := h
  unfold sumF at e
  split at e
  · obtain ⟨ys, e1, e2⟩ := Option.bind_eq_some_iff.mp e
    obtain ⟨bs, e3, e4⟩ := Option.map_eq_some_iff.mp e2
    subst e4
    obtain ⟨v, rfl, dv⟩ := dx.one
    obtain ⟨a, vs, rfl, ha, ra⟩ := lstOfR_at ob dv e1
    rw [intsOf_at ra e3] at ha
    exact cr_sum hc pins s σ H _ us Q I r ⟨_, _, rfl, ha, q _ _ .refl ob (.int _)⟩
  · cases e
theorem cr_min2F (hc : X.calm = true) : CallR X (.builtin "min") (rCF X.K min2F) := by
  intro pins s σ H vs us Q I r h
  obtain ⟨hp, m, xs, z, ob, dx, e, q⟩ := h
  unfold min2F at e
  split at e
  · cases e
    obtain ⟨v, w, rfl, dv, dw⟩ := dx.two
    cases dv; cases dw
    exact call_min2 hc pins s σ H _ us Q I r ⟨_, _, rfl, q _ _ .refl ob (.int _)⟩
  · cases e
theorem cr_max2F (hc : X.calm = true) : CallR X (.builtin "max") (rCF X.K max2F) := by
  intro pins s σ H vs us Q I r h
  obtain ⟨hp, m, xs, z, ob, dx, e, q⟩ := h
  unfold max2F at e
  split at e
  · cases e
    obtain ⟨v, w, rfl, dv, dw⟩ := dx.two
    cases dv; cases dw
    exact call_max2 hc pins s σ H _ us Q I r ⟨_, _, rfl, q _ _ .refl ob (.int _)⟩
  · cases e
end

/-! ### isinstance -/
inductive Cl where
  | int | bool | str | tuple | list | dict
  deriving DecidableEq
def Cl.name : Cl → String
  | .int => "int" | .bool => "bool" | .str => "str" | .tuple => "tuple" | .list => "list" | .dict => "dict"
def isA (hp : AH) (d : D) (c : Cl) : Option Bool := match d with
  | .non => some false
  | .bl _ => some (c == .bool || c == .int)
  | .int _ => some (c == .int)
  | .str _ => some (c == .str)
  | .tup _ => some (c == .tuple)
  | .vls _ => some (c == .list)
  | .exn _ => none
  | .exf _ _ _ => none
  | .rls _ => none
  | .ref l => match hp[l]? with
    | some (.lst _) => some (c == .list)
    | some (.rol _) => some (c == .list)
    | some (.dct _) => some (c == .dict)
    | some (.dlk _) => some (c == .dict)
    | _ => none
def dIsA (c : Cl) (a : DE D) : DE D := fun env hp => bE (a env hp) fun x h1 => match isA h1 x c with
  | some b => some (.val (.bl b), h1)
  | none => none
section
variable {X : Cx} {W : WX} {a : Expr} {da : DE D}
theorem kitB_none (c : Cl) : kitB "NoneType" c.name = some false := by cases c <;> decide +kernel
theorem kitB_bool (c : Cl) : kitB "bool" c.name = some (c == .bool || c == .int) := by cases c <;> decide +kernel
theorem kitB_int (c : Cl) : kitB "int" c.name = some (c == .int) := by cases c <;> decide +kernel
theorem kitB_str (c : Cl) : kitB "str" c.name = some (c == .str) := by cases c <;> decide +kernel
theorem kitB_tuple (c : Cl) : kitB "tuple" c.name = some (c == .tuple) := by cases c <;> decide +kernel
theorem kitB_list (c : Cl) : kitB "list" c.name = some (c == .list) := by cases c <;> decide +kernel
theorem kitB_dict (c : Cl) : kitB "dict" c.name = some (c == .dict) := by cases c <;> decide +kernel
theorem isA_at {K : PySem.W.Frag} {m : Ma} {H : Hp} {hp : AH} {d : D} {v : V} {c : Cl} {b : Bool} (ob : Obs K H m hp) (h : DV K m H d v) (e : isA hp d c = some b) : ∃ t, TyX K H v (.type t) ∧ kitB t c.name = some b := by
  unfold isA at e
  split at e
  · cases h; rw [← e]; exact ⟨_, .base .non, kitB_none c⟩
  · cases h; rw [← e]; exact ⟨_, .base (.bl _), kitB_bool c⟩
  · cases h; rw [← e]; exact ⟨_, .base (.int _), kitB_int c⟩
  · cases h; rw [← e]; exact ⟨_, .base (.str _), kitB_str c⟩
  · rw [← e]
    cases h with
    | tup h1 h2 =>
      rcases h1 with (h1 | ⟨o, h1⟩) | ⟨o, its, n, h1, h3, _⟩
      · exact ⟨_, .base (.tup h1), kitB_tuple c⟩
      · exact ⟨_, .fTuple h1, kitB_tuple c⟩
      · exact ⟨_, .kTuple h1 h3, kitB_tuple c⟩
  · rw [← e]
    cases h with
    | vls h1 h2 => exact ⟨_, .base (.lst h1.1), kitB_list c⟩
  · cases e
  · cases e
  · cases e
  · have go : ∀ {b : Ob} {l : Nat}, hp[l]? = some b → b ≠ .dead → DV K m H (.ref l) v → ∃ a, v = .ref a ∧ OV K m H a b := fun hb hn hd => by
      obtain ⟨a, h', z⟩ := ob.get hb hn
      cases hd with
      | ref h2 => rw [h2] at h'; cases h'; exact ⟨_, rfl, z⟩
      | dead h2 => rw [h2] at h'; cases h'
    split at e
    · rename_i h1
      obtain ⟨a, rfl, vs, z, _⟩ := go h1 (by intro z; cases z) h
      rw [← e]
      exact ⟨_, .base (.lst z), kitB_list c⟩
    · rename_i h1
      obtain ⟨a, rfl, o, vs, z, _⟩ := go h1 (by intro z; cases z) h
      rw [← e]
      exact ⟨_, .base (.frz z), kitB_list c⟩
    · rename_i h1
      obtain ⟨a, rfl, vs, z, _⟩ := go h1 (by intro z; cases z) h
      rw [← e]
      exact ⟨_, .base (.dK z), kitB_dict c⟩
    · rename_i h1
      obtain ⟨a, rfl, o, vs, z, _⟩ := go h1 (by intro z; cases z) h
      rw [← e]
      exact ⟨_, .fDict z, kitB_dict c⟩
    · cases e
theorem me_isA {c : Cl} {p pos : Pos} {b : Expr} (hg : Gl X "isinstance") (hm : X.mg "isinstance" = none) (hv : bootBuiltins "isinstance" = some (.builtin "isinstance")) (ha : ME X W a da) (hb : PE X b (tC (.ty c.name)))
    (hs : starEach [a, b] X.env = (false, eval a X.env) :: starEach [b] X.env := by rfl) (hs2 : starEach [b] X.env = (false, eval b X.env) :: starEach [] X.env := by rfl) (hpl : (backTo pos (starEach [b] X.env)).any (·.1) = false := by rfl) :
    ME X W (.Call (.Name "isinstance" p) [a, b] [] pos) (dIsA c da) := by
  refine PE.weak (t := tCB (rIsi X.K) (tCons (toR X.K X.mg W (RD X.K) da) (tCons (tC (.ty c.name)) tNil))) ?_ fun σ H Q h => ?_
  · first
      | exact pe_callB call_isi hg hm hv (pa_cons ha (pa_cons hb pa_nil hs2) hs) (by decide) (by decide) hs hpl
      | exact pe_callB call_isi hg hm hv (pa_cons ha (pa_cons hb pa_nil hs2) hs) (by decide) (by decide) hs
  · obtain ⟨env, hp, m, s, r, hp', e, p⟩ := h
    refine toR_step s e p fun x hp1 e1 v H1 m1 E1 s1 rv p1 => ?_
    split at e1
    · rename_i k hk
      cases e1
      obtain ⟨t, h1, h2⟩ := isA_at s1.ob rv hk
      exact ⟨v, _, _, _, k, rfl, .ty _, h1, kit_ty h2, p1 _ _ _ .refl s1.ob (.bl _)⟩
    · cases e1
end

/-! ### calls of defs -/
abbrev Sem1 := List D → AH → Mo D
abbrev Sems := Nat → Sem1
def spF (K : PySem.W.Frag) (mg : Str → Option Value) (n : Nat) (f : Sem1) : Sp := fun vs H Q E => ∃ xs hp m r hp', xs.length = n ∧ DVs K m H xs vs ∧ Obs K H m hp ∧ f xs hp = some (r, hp') ∧ Pst K mg (fun c d _ H => E c d H) (RD K) H m [] r hp' Q
def dCall (n : Nat) (f : Sem1) (a : DE (List D)) : DE D := fun env hp => bE (a env hp) fun xs h1 => if xs.length = n then f xs h1 else none
section
variable {X : Cx} {W : WX} {e : Expr} {es : List Expr} {da : DE (List D)} {x : Str} {p pos : Pos} {k n : Nat} {f : Addr} {fd : FuncData} {ps : List Str} {g : Sem1}
theorem Pst.sig {H : Hp} {m : Ma} {σ : St} {r : Out D} {hp' : AH} {Q : VK} {K : PySem.W.Frag} {mg : Str → Option Value} (p : Pst K mg W (RD K) H m σ r hp' Q) : Pst K mg (fun c d _ H => WE W σ c d H) (RD K) H m [] r hp' Q := by
  cases r with
  | val x => exact p
  | exc x => exact p
theorem me_call (F : FnOk X.prog X.w X.K X.mg X.base (L2.CX X.prog X.w) k f fd ps (spF X.K X.mg n g)) (hr : Room k X.A) (hg : Gl X x) (hm : X.mg x = some (.ref f)) (hk : PySem.W.keepIn X.K (.ref f) = true) (hb : Binds X.K fd ps []) (tk : Takes X W)
    (ha : MA X W (e :: es) da) (hdb : (x == ("__debug__" : Str)) = false) (he : starEach (e :: es) X.env = (false, eval e X.env) :: starEach es X.env) (hpl : (backTo pos (starEach es X.env)).any (·.1) = false) :
    ME X W (.Call (.Name x p) (e :: es) [] pos) (dCall n g da) := by
  refine (pe_callS F hr hg hm hk hb (fun σ => passAt tk σ) ha hdb he hpl).weak fun σ H Q h => ?_
  obtain ⟨env, hp, m, s, r, hp', e, p⟩ := h
  refine toR_step s e p fun xs hp1 e1 v H1 m1 E1 s1 rv p1 => ?_
  split at e1
  · rename_i hl
    exact ⟨xs, hp1, m1, r, hp', hl, rv, s1.ob, e1, p1.sig⟩
  · cases e1
end
end MP
end

section
set_option maxHeartbeats 2000000
/-! MpStmt: targets, statements, loops. -/
namespace MP
open PySem PySem.Spec L2

/-! ### statements -/
inductive Fl where
  | next | brk | cont | ret (d : D) | exc (e : Exn)
abbrev DS := En → AH → Option (Fl × En × AH)
def PstS (K : PySem.W.Frag) (mg : Str → Option Value) (W : WX) (D : Ends) (H : Hp) (m : Ma) (f : Fl) (env' : En) (hp' : AH) : Prop := match f with
  | .next => ∀ σ' H' m', Ext K H m H' m' → Stt K H' m' env' hp' σ' → D.nx σ' H'
  | .brk => ∀ σ' H' m', Ext K H m H' m' → Stt K H' m' env' hp' σ' → D.bk σ' H'
  | .cont => ∀ σ' H' m', Ext K H m H' m' → Stt K H' m' env' hp' σ' → D.ct σ' H'
  | .ret d => ∀ v H' m', Ext K H m H' m' → Obs K H' m' hp' → DV K m' H' d v → D.rt v H'
  | .exc e => ∀ c dd σ' H' m', Ext K H m H' m' → Stt K H' m' env' hp' σ' → ExV mg e c dd → W c dd σ' H'
def toS (K : PySem.W.Frag) (mg : Str → Option Value) (W : WX) (d : DS) : TS := fun D σ H =>
  ∃ env hp m, Stt K H m env hp σ ∧ ∃ f env' hp', d env hp = some (f, env', hp') ∧ PstS K mg W D H m f env' hp'
abbrev MS (X : Cx) (W : WX) (st : Stmt) (d : DS) : Prop := PS X st (toS X.K X.mg W d)
abbrev MSs (X : Cx) (W : WX) (st : List Stmt) (d : DS) : Prop := PSs X st (toS X.K X.mg W d)
section
variable {K : PySem.W.Frag} {mg : Str → Option Value} {W : WX} {D : Ends} {H H1 : Hp} {m m1 : Ma} {f : Fl} {env env' : En} {hp hp' : AH} {σ : St}
theorem PstS.mono (e : Ext K H m H1 m1) (p : PstS K mg W D H m f env' hp') : PstS K mg W D H1 m1 f env' hp' := by
  cases f with
  | next => exact fun σ' H' m' g => p σ' H' m' (e.trans g)
  | brk => exact fun σ' H' m' g => p σ' H' m' (e.trans g)
  | cont => exact fun σ' H' m' g => p σ' H' m' (e.trans g)
  | ret d => exact fun v H' m' g => p v H' m' (e.trans g)
  | exc x => exact fun c dd σ' H' m' g => p c dd σ' H' m' (e.trans g)
end
/-- an expression ahead of what is done with its value -/
def bS {α : Type} (x : Mo α) (env : En) (k : α → AH → Option (Fl × En × AH)) : Option (Fl × En × AH) := match x with
  | none => none
  | some (.exc e, h) => some (.exc e, env, h)
  | some (.val a, h) => k a h
theorem toR_stepS {α ω : Type} {K : PySem.W.Frag} {mg : Str → Option Value} {W : WX} {R : RelT α ω} {D : Ends} {H : Hp} {m : Ma} {σ : St} {env : En} {hp : AH} {Q : ω → Hp → Prop} {d : DE α} {k : α → AH → Option (Fl × En × AH)} {f : Fl} {env' : En} {hp' : AH}
    (s : Stt K H m env hp σ) (e : bS (d env hp) env k = some (f, env', hp')) (p : PstS K mg W D H m f env' hp')
    (hv : ∀ x hp1, k x hp1 = some (f, env', hp') → ∀ v H1 m1, Ext K H m H1 m1 → Stt K H1 m1 env hp1 σ → R m1 H1 x v → PstS K mg W D H1 m1 f env' hp' → Q v H1) : toR K mg W R d σ H Q := by
  cases q : d env hp with
  | none => rw [q] at e; cases e
  | some z =>
    obtain ⟨o, h1⟩ := z
    rw [q] at e
    cases o with
    | val x => exact ⟨env, hp, m, s, .val x, h1, q, fun v H1 m1 f ob rv => hv x h1 e v H1 m1 f (s.step f ob) rv (p.mono f)⟩
    | exc x =>
      have e' : (Fl.exc x, env, h1) = (f, env', hp') := Option.some.inj e
      cases e'
      exact ⟨env, hp, m, s, .exc x, _, q, fun c dd H' m' g ob xv => p c dd σ H' m' g (s.step g ob) xv⟩

/-! ### targets -/
abbrev TgD := D → En → AH → Option (En × AH)
abbrev TgsD := List D → En → AH → Option (En × AH)
/-- the slots agree but for some -/
def Agree (ws : List Nat) (σ σ' : St) : Prop := σ'.length = σ.length ∧ ∀ j, j ∉ ws → σ'[j]? = σ[j]?
theorem Agree.refl {ws : List Nat} {σ : St} : Agree ws σ σ := ⟨rfl, fun _ _ => rfl⟩
theorem Agree.trans {ws us : List Nat} {σ σ' σ2 : St} (a : Agree ws σ σ') (b : Agree us σ' σ2) : Agree (ws ++ us) σ σ2 := ⟨b.1.trans a.1, fun j h => by
  rw [List.mem_append, not_or] at h
  exact (b.2 j h.2).trans (a.2 j h.1)⟩
theorem Agree.set {i : Nat} {σ : St} {x : Option V} : Agree [i] σ (σ.set i x) := ⟨List.length_set .., fun j h => by
  rw [List.getElem?_set_ne]
  intro e; subst e; simp at h⟩
theorem wipe_get {σ : St} {vs : List Nat} {j : Nat} : (wipe σ vs)[j]? = if j ∈ vs ∧ j < σ.length then some none else σ[j]? := by
  induction vs with
  | nil => simp [wipe]
  | cons v vs ih =>
    unfold wipe
    by_cases e : v = j
    · subst e
      by_cases hl : v < σ.length
      · rw [List.getElem?_set_self (by rw [wipe_length]; exact hl), if_pos ⟨List.mem_cons_self, hl⟩]
      · rw [List.getElem?_eq_none (by rw [List.length_set, wipe_length]; omega), if_neg (fun z => hl z.2), List.getElem?_eq_none (by omega)]
    · rw [List.getElem?_set_ne e, ih]
      have : (j ∈ v :: vs) ↔ (j ∈ vs) := by simp [Ne.symm e]
      simp only [this]
theorem Agree.wipe {ws vs : List Nat} {σ σ' : St} (a : Agree ws σ σ') (h : ∀ j ∈ ws, j ∈ vs) : wipe σ' vs = wipe σ vs := by
  apply List.ext_getElem?
  intro j
  rw [wipe_get, wipe_get, a.1]
  by_cases hj : j ∈ vs ∧ j < σ.length
  · rw [if_pos hj, if_pos hj]
  · rw [if_neg hj, if_neg hj]
    by_cases hw : j ∈ ws
    · have : ¬ j < σ.length := fun z => hj ⟨h j hw, z⟩
      have hl := a.1
      rw [List.getElem?_eq_none (by omega), List.getElem?_eq_none (by omega)]
    · exact a.2 j hw
def toG (K : PySem.W.Frag) (ws : List Nat) (t : TgD) : TG := fun v σ H Q => ∃ env hp m d env' hp', Stt K H m env hp σ ∧ DV K m H d v ∧ t d env hp = some (env', hp') ∧ ∀ σ' H' m', Ext K H m H' m' → Stt K H' m' env' hp' σ' → Agree ws σ σ' → Q σ' H'
def toGs (K : PySem.W.Frag) (ws : List Nat) (t : TgsD) : TGs := fun vs σ H Q => ∃ env hp m ds env' hp', Stt K H m env hp σ ∧ DVs K m H ds vs ∧ t ds env hp = some (env', hp') ∧ ∀ σ' H' m', Ext K H m H' m' → Stt K H' m' env' hp' σ' → Agree ws σ σ' → Q σ' H'
theorem _root_.L2.PG.weak {X : Cx} {e : Expr} {t t' : TG} (h : PG X e t) (w : ∀ v σ H Q, t' v σ H Q → t v σ H Q) : PG X e t' := ⟨fun pins s σ H v u Q I r q => h.run pins s σ H v u Q I r (w v σ H Q q)⟩
theorem _root_.L2.PGs.weak {X : Cx} {e : List Expr} {t t' : TGs} (h : PGs X e t) (w : ∀ v σ H Q, t' v σ H Q → t v σ H Q) : PGs X e t' := ⟨fun pins s σ H v u Q I r q => h.run pins s σ H v u Q I r (w v σ H Q q)⟩
abbrev MG (X : Cx) (ws : List Nat) (e : Expr) (t : TgD) : Prop := PG X e (toG X.K ws t)
abbrev MGs (X : Cx) (ws : List Nat) (e : List Expr) (t : TgsD) : Prop := PGs X e (toGs X.K ws t)
def tgName (i : Nat) : TgD := fun d env hp => some (env.set i (some d), hp)
def tgNil : TgsD := fun ds env hp => match ds with
  | [] => some (env, hp)
  | _ => none
def tgCons (t : TgD) (u : TgsD) : TgsD := fun ds env hp => match ds with
  | d :: r => (t d env hp).bind fun z => u r z.1 z.2
  | _ => none
def tgTup (n : Nat) (t : TgsD) : TgD := fun d env hp => match d with
  | .tup xs => if xs.length = n then t xs env hp else none
  | _ => none
section
variable {X : Cx} {W : WX} {pos : Pos} {e : Expr} {es : List Expr} {t : TgD} {u : TgsD} {ws us : List Nat}
theorem mg_name {i : Nat} {x : Str} (hN : X.N.Nodup) (hi : X.N[i]? = some x) (hx : Loc X.env.scope x) (hf : X.fn x = true ∨ X.env.scope.names.lookup x = some .local) : MG X [i] (.Name x pos) (tgName i) := by
  refine (pg_name hN hi hx hf).weak fun v σ H Q h => ?_
  obtain ⟨env, hp, m, d, env', hp', s, dv, e, q⟩ := h
  cases e
  exact q _ _ _ .refl ⟨s.en.set dv i, s.ob⟩ .set
theorem mgs_nil : MGs X [] [] tgNil := by
  refine pgs_nil.weak fun v σ H Q h => ?_
  obtain ⟨env, hp, m, ds, env', hp', s, dv, e, q⟩ := h
  unfold tgNil at e
  split at e
  · cases e
    cases dv
    exact ⟨rfl, q _ _ _ .refl s .refl⟩
  · cases e
theorem mgs_cons (h1 : MG X ws e t) (h2 : MGs X us es u) (hs : (assignEach (e :: es) X.env).map (·.2) = assign e X.env :: (assignEach es X.env).map (·.2)) : MGs X (ws ++ us) (e :: es) (tgCons t u) := by
  refine (pgs_cons h1 h2 hs).weak fun v σ H Q h => ?_
  obtain ⟨env, hp, m, ds, env', hp', s, dv, e, q⟩ := h
  unfold tgCons at e
  split at e
  · obtain ⟨z, e1, e2⟩ := Option.bind_eq_some_iff.mp e
    cases dv with
    | cons d1 d2 =>
      refine ⟨_, _, rfl, env, hp, m, _, z.1, z.2, s, d1, e1, fun σ1 H1 m1 E1 s1 a1 => ?_⟩
      exact ⟨z.1, z.2, m1, _, env', hp', s1, d2.mono E1, e2, fun σ2 H2 m2 E2 s2 a2 => q _ _ _ (E1.trans E2) s2 (a1.trans a2)⟩
  · cases e
theorem mg_tup {k n : Nat} (hc : X.calm = true) (h : MGs X ws es u) (hn : (assignEach es X.env).length = n) (hst : (assignEach es X.env).findIdx? (·.1) = none) : MG X ws (.Tuple es k pos) (tgTup n u) := by
  refine (pg_tup hc h hn hst).weak fun v σ H Q h => ?_
  obtain ⟨env, hp, m, d, env', hp', s, dv, e, q⟩ := h
  unfold tgTup at e
  split at e
  · split at e
    · rename_i hl
      cases dv with
      | tup h1 h2 => exact ⟨_, _, rfl, h1, by rw [← h2.length]; exact hl, env, hp, m, _, env', hp', s, h2, e, q⟩
    · cases e
  · cases e
end

/-! ### plain statements -/
def dNext : DS := fun env hp => some (.next, env, hp)
def dSeq (a b : DS) : DS := fun env hp => match a env hp with
  | some (.next, env1, h1) => b env1 h1
  | r => r
def dAsg (e : DE D) (t : TgD) : DS := fun env hp => bS (e env hp) env fun x h1 => (t x env h1).map fun z => (.next, z.1, z.2)
def dAsg2 (i j : Nat) (e : DE (List D)) : DS := fun env hp => bS (e env hp) env fun xs h1 => match xs with
  | [x, y] => some (.next, (env.set i (some x)).set j (some y), h1)
  | _ => none
def dAsg3 (i j k : Nat) (e : DE (List D)) : DS := fun env hp => bS (e env hp) env fun xs h1 => match xs with
  | [x, y, z] => some (.next, ((env.set i (some x)).set j (some y)).set k (some z), h1)
  | _ => none
def dAug (i : Nat) (f : F2) (e : DE D) : DS := fun env hp => match env[i]? with
  | some (some x) => bS (e env hp) env fun y h1 => match f h1 x y with
    | some z => some (.next, env.set i (some z), h1)
    | none => none
  | _ => none
def dDrop (e : DE D) : DS := fun env hp => bS (e env hp) env fun _ h1 => some (.next, env, h1)
def dRet (e : DE D) : DS := fun env hp => bS (e env hp) env fun x h1 => some (.ret x, env, h1)
def dRetN : DS := fun env hp => some (.ret .non, env, hp)
def dIfS (c : DE Bool) (a b : DS) : DS := fun env hp => bS (c env hp) env fun x h1 => if x then a env h1 else b env h1
def dBrk : DS := fun env hp => some (.brk, env, hp)
def dCont : DS := fun env hp => some (.cont, env, hp)
section
variable {X : Cx} {W : WX} {pos : Pos} {e c : Expr} {es : List Expr} {st : Stmt} {rest body orelse : List Stmt} {de : DE D} {dc : DE Bool} {t : TgD} {ws : List Nat} {a b : DS}
theorem mss_nil : MSs X W [] dNext := by
  refine pss_nil.weak fun D σ H h => ?_
  obtain ⟨env, hp, m, s, f, env', hp', e, p⟩ := h
  cases e
  exact p _ _ _ .refl s
theorem mss_cons (h1 : MS X W st a) (h2 : MSs X W rest b) : MSs X W (st :: rest) (dSeq a b) := by
  refine (pss_cons h1 h2).weak fun D σ H h => ?_
  obtain ⟨env, hp, m, s, f, env', hp', e, p⟩ := h
  unfold dSeq at e
  cases q : a env hp with
  | none => rw [q] at e; cases e
  | some z =>
    obtain ⟨f1, env1, hp1⟩ := z
    rw [q] at e
    refine ⟨env, hp, m, s, f1, env1, hp1, q, ?_⟩
    cases f1 with
    | next => exact fun σ1 H1 m1 E1 s1 => ⟨env1, hp1, m1, s1, f, env', hp', e, p.mono E1⟩
    | brk => cases e; exact p
    | cont => cases e; exact p
    | ret d => cases e; exact p
    | exc x => cases e; exact p
theorem mss_one (h1 : MS X W st a) : MSs X W [st] a := pss_one h1
theorem ms_pass : MS X W (.Pass pos) dNext := by
  refine ps_pass.weak fun D σ H h => ?_
  obtain ⟨env, hp, m, s, f, env', hp', e, p⟩ := h
  cases e
  exact p _ _ _ .refl s
theorem ms_break : MS X W (.Break pos) dBrk := by
  refine ps_break.weak fun D σ H h => ?_
  obtain ⟨env, hp, m, s, f, env', hp', e, p⟩ := h
  cases e
  exact p _ _ _ .refl s
theorem ms_continue : MS X W (.Continue pos) dCont := by
  refine ps_continue.weak fun D σ H h => ?_
  obtain ⟨env, hp, m, s, f, env', hp', e, p⟩ := h
  cases e
  exact p _ _ _ .refl s
theorem asg_run {te : TE} (hte : ∀ σ H Q, toR X.K X.mg W (RD X.K) de σ H Q → te σ H Q) {D : Ends} {σ : St} {H : Hp} (h : toS X.K X.mg W (dAsg de t) D σ H) : tAsg te (toG X.K ws t) D σ H := by
  obtain ⟨env, hp, m, s, f, env', hp', e, p⟩ := h
  refine hte σ H _ (toR_stepS s e p fun x hp1 e1 v H1 m1 E1 s1 rv p1 => ?_)
  obtain ⟨z, e2, e3⟩ := Option.map_eq_some_iff.mp e1
  cases e3
  exact ⟨env, hp1, m1, x, _, _, s1, rv, e2, fun σ' H' m' E' s' _ => p1 σ' H' m' E' s'⟩
theorem ms_asg {tg : Expr} (he : ME X W e de) (hg : MG X ws tg t) (hs : swapsWithSole [tg] e pos.line X.env = pure false) (hw : swappedStores [tg] e X.env = pure none) (h1 : (assignEach [tg] X.env).map (·.2) = [assign tg X.env]) :
    MS X W (.Assign [tg] e pos) (dAsg de t) := (ps_asg he hg hs hw h1).weak fun D σ H h => asg_run (fun _ _ _ q => q) h
theorem ms_set {i : Nat} {x : Str} {pos' : Pos} (hN : X.N.Nodup) (hi : X.N[i]? = some x) (hx : Loc X.env.scope x) (he : ME X W e de) (hs : swapsWith e (some (.Name x pos')) pos.line X.env = pure false) (hf : X.fn x = true ∨ X.env.scope.names.lookup x = some .local) :
    MS X W (.Assign [.Name x pos'] e pos) (dAsg de (tgName i)) := by
  refine (ps_set hN hi hx he hs hf).weak fun D σ H h => ?_
  obtain ⟨env, hp, m, s, f, env', hp', e, p⟩ := h
  refine toR_stepS s e p fun x hp1 e1 v H1 m1 E1 s1 rv p1 => ?_
  cases e1
  exact p1 _ _ _ .refl ⟨s1.en.set rv i, s1.ob⟩
theorem ms_par {i j : Nat} {x y : Str} {a b : Expr} {da : DE (List D)} {px py pt : Pos} {kt k2 pt2} (hc : X.calm = true) (hN : X.N.Nodup) (hi : X.N[i]? = some x) (hj : X.N[j]? = some y) (hij : i ≠ j)
    (hx : X.env.scope.names.lookup x = some .local) (hy : X.env.scope.names.lookup y = some .local) (ha : MA X W [a, b] da) (hw : swappedStores [.Tuple [.Name x px, .Name y py] kt pt] (.Tuple [a, b] k2 pt2) X.env = pure (some [x, y]))
    (hs : swapsWithSole [.Tuple [.Name x px, .Name y py] kt pt] (.Tuple [a, b] k2 pt2) pos.line X.env = pure false) : MS X W (.Assign [.Tuple [.Name x px, .Name y py] kt pt] (.Tuple [a, b] k2 pt2) pos) (dAsg2 i j da) := by
  refine (ps_par hc hN hi hj hij hx hy ha hw hs).weak fun D σ H h => ?_
  obtain ⟨env, hp, m, s, f, env', hp', e, p⟩ := h
  refine toR_stepS s e p fun xs hp1 e1 vs H1 m1 E1 s1 rv p1 => ?_
  split at e1
  · cases e1
    obtain ⟨v, w, rfl, d1, d2⟩ := rv.two
    exact ⟨v, w, rfl, p1 _ _ _ .refl ⟨(s1.en.set d1 i).set d2 j, s1.ob⟩⟩
  · cases e1
theorem ms_par3 {i j l : Nat} {x y z : Str} {a b c : Expr} {da : DE (List D)} {px py pz pt : Pos} {kt k2 pt2} (hc : X.calm = true) (hN : X.N.Nodup) (hi : X.N[i]? = some x) (hj : X.N[j]? = some y) (hl : X.N[l]? = some z) (hij : i ≠ j) (hil : i ≠ l) (hjl : j ≠ l)
    (hx : X.env.scope.names.lookup x = some .local) (hy : X.env.scope.names.lookup y = some .local) (hz : X.env.scope.names.lookup z = some .local) (ha : MA X W [a, b, c] da)
    (hw : swappedStores [.Tuple [.Name x px, .Name y py, .Name z pz] kt pt] (.Tuple [a, b, c] k2 pt2) X.env = pure (some [x, y, z]))
    (hs : swapsWithSole [.Tuple [.Name x px, .Name y py, .Name z pz] kt pt] (.Tuple [a, b, c] k2 pt2) pos.line X.env = pure false) : MS X W (.Assign [.Tuple [.Name x px, .Name y py, .Name z pz] kt pt] (.Tuple [a, b, c] k2 pt2) pos) (dAsg3 i j l da) := by
  refine PS.weak (ps_par3 hc hN hi hj hl hij hil hjl hx hy hz ha hw hs) fun D σ H h => ?_
  obtain ⟨env, hp, m, s, f, env', hp', e, p⟩ := h
  refine toR_stepS s e p fun xs hp1 e1 vs H1 m1 E1 s1 rv p1 => ?_
  split at e1
  · cases e1
    cases rv with
    | cons d1 t =>
      obtain ⟨v, w, rfl, d2, d3⟩ := t.two
      exact ⟨_, v, w, rfl, p1 _ _ _ .refl ⟨((s1.en.set d1 i).set d2 j).set d3 l, s1.ob⟩⟩
  · cases e1
theorem ms_aug {i : Nat} {x : Str} {op : Operator} {f : F2} {pos' : Pos} (hN : X.N.Nodup) (hi : X.N[i]? = some x) (hx : Loc X.env.scope x) (he : ME X W e de) (ho : PIp X op (rF X.K f)) (hf : X.fn x = true ∨ X.env.scope.names.lookup x = some .local) :
    MS X W (.AugAssign (.Name x pos') op e pos) (dAug i f de) := by
  refine (ps_aug hN hi hx he ho hf).weak fun D σ H h => ?_
  obtain ⟨env, hp, m, s, f, env', hp', e, p⟩ := h
  unfold dAug at e
  split at e
  · rename_i d q
    obtain ⟨v, h1, h2⟩ := s.en.get q
    refine ⟨v, h1, toR_stepS s e p fun y hp1 e1 w H1 m1 E1 s1 rw' p1 => ?_⟩
    split at e1
    · rename_i z hz
      cases e1
      exact ⟨_, m1, d, y, z, s1.ob, h2.mono E1, rw', hz, fun v' H' E' o' d' => p1 _ _ _ E' ⟨(s1.en.mono E').set d' i, o'⟩⟩
    · cases e1
  · cases e
theorem ms_expr (he : ME X W e de) (hs : swapsWith e none pos.line X.env = pure false) : MS X W (.Expr e pos) (dDrop de) := by
  refine (ps_expr he hs).weak fun D σ H h => ?_
  obtain ⟨env, hp, m, s, f, env', hp', e, p⟩ := h
  refine toR_stepS s e p fun x hp1 e1 v H1 m1 E1 s1 rv p1 => ?_
  cases e1
  exact p1 _ _ _ .refl s1
theorem ms_ret (he : ME X W e de) : MS X W (.Return (some e) pos) (dRet de) := by
  refine (ps_ret he).weak fun D σ H h => ?_
  obtain ⟨env, hp, m, s, f, env', hp', e, p⟩ := h
  refine toR_stepS s e p fun x hp1 e1 v H1 m1 E1 s1 rv p1 => ?_
  cases e1
  exact p1 _ _ _ .refl s1.ob rv
theorem ms_retN : MS X W (.Return none pos) dRetN := by
  refine ps_retN.weak fun D σ H h => ?_
  obtain ⟨env, hp, m, s, f, env', hp', e, p⟩ := h
  cases e
  exact p _ _ _ .refl s.ob .non
theorem ms_if (hc : MT X W c dc) (ha : MSs X W body a) (hb : MSs X W orelse b) : MS X W (.If c body orelse pos) (dIfS dc a b) := by
  refine (ps_if hc ha hb).weak fun D σ H h => ?_
  obtain ⟨env, hp, m, s, f, env', hp', e, p⟩ := h
  refine toR_stepS s e p fun x hp1 e1 v H1 m1 E1 s1 rv p1 => ?_
  cases rv
  cases x with
  | true => exact ⟨env, hp1, m1, s1, f, env', hp', e1, p1⟩
  | false => exact ⟨env, hp1, m1, s1, f, env', hp', e1, p1⟩
theorem ip_of {op : Operator} {f : F2} (h : OpR X (inplaceOp op) (rF X.K f)) : PIp X op (rF X.K f) := h
def iaddD : F2
  | _, .int i, .int j => some (.int (i + j))
  | _, .str s, .str t => if s.length + t.length ≤ lim then some (.str (s ++ t)) else none
  | _, _, _ => none
theorem ip_addF : PIp X .Add (rF X.K iaddD) := by
  intro pins s σ H vx vy v u Q I rx ry h
  obtain ⟨hp, m, x, y, z, ob, dx, dy, e, q⟩ := h
  unfold iaddD at e
  split at e
  · cases e; cases dx; cases dy
    exact iop_add pins s σ H _ _ v u Q I rx ry ⟨_, _, rfl, rfl, q _ _ .refl ob (.int _)⟩
  · split at e
    · rename_i hl
      cases e; cases dx; cases dy
      exact iop_add_str pins s σ H _ _ v u Q I rx ry ⟨_, _, rfl, rfl, by rw [lim_eq]; exact hl, q _ _ .refl ob (.str _)⟩
    · cases e
  · cases e
theorem ip_subF : PIp X .Sub (rF X.K subD) := by
  intro pins s σ H vx vy v u Q I rx ry h
  obtain ⟨hp, m, x, y, z, ob, dx, dy, e, q⟩ := h
  unfold subD at e
  split at e
  · cases e; cases dx; cases dy
    exact iop_sub pins s σ H _ _ v u Q I rx ry ⟨_, _, rfl, rfl, q _ _ .refl ob (.int _)⟩
  · cases e
end

/-! ### while -/
/-- behind a turn: k goes on -/
def aft (z : Option (Fl × En × AH)) (k : En → AH → Option (Fl × En × AH)) : Option (Fl × En × AH) := match z with
  | none => none
  | some (.next, e, h) => k e h
  | some (.cont, e, h) => k e h
  | some (.brk, e, h) => some (.next, e, h)
  | some (.ret d, e, h) => some (.ret d, e, h)
  | some (.exc x, e, h) => some (.exc x, e, h)
theorem aft_mono {z : Option (Fl × En × AH)} {k k' : En → AH → Option (Fl × En × AH)} {r : Fl × En × AH} (h : ∀ e h r, k e h = some r → k' e h = some r) (q : aft z k = some r) : aft z k' = some r := by
  cases z with
  | none => cases q
  | some z =>
    obtain ⟨f, e, hh⟩ := z
    cases f with
    | next => exact h _ _ _ q
    | cont => exact h _ _ _ q
    | brk => exact q
    | ret d => exact q
    | exc x => exact q
theorem aft_mono2 {z : Option (Fl × En × AH)} {k k' : En → AH → Option (Fl × En × AH)} {r : Fl × En × AH} (h : ∀ e h, k e h = some r → k' e h = some r) (q : aft z k = some r) : aft z k' = some r := by
  cases z with
  | none => cases q
  | some z =>
    obtain ⟨f, e, hh⟩ := z
    cases f with
    | next => exact h _ _ q
    | cont => exact h _ _ q
    | brk => exact q
    | ret d => exact q
    | exc x => exact q
def whGo (c : DE Bool) (body : DS) : Nat → En → AH → Option (Fl × En × AH)
  | 0, _, _ => none
  | n + 1, env, hp => bS (c env hp) env fun x h1 => if x then aft (body env h1) (whGo c body n) else some (.next, env, h1)
theorem bS_mono {α : Type} {x : Mo α} {env : En} {k k' : α → AH → Option (Fl × En × AH)} {r : Fl × En × AH} (h : ∀ a h1, k a h1 = some r → k' a h1 = some r) (e : bS x env k = some r) : bS x env k' = some r := by
  unfold bS at e ⊢
  split at e
  · cases e
  · exact e
  · exact h _ _ e
theorem whGo_succ {c : DE Bool} {body : DS} : ∀ {n : Nat} {env : En} {hp : AH} {r : Fl × En × AH}, whGo c body n env hp = some r → whGo c body (n + 1) env hp = some r
  | 0, _, _, _, h => by cases h
  | n + 1, env, hp, r, h => by
    have h' : (bS (c env hp) env fun x h1 => if x then aft (body env h1) (whGo c body n) else some (.next, env, h1)) = some r := h
    show (bS (c env hp) env fun x h1 => if x then aft (body env h1) (whGo c body (n + 1)) else some (.next, env, h1)) = some r
    refine bS_mono (fun a h1 h2 => ?_) h'
    cases a with
    | true => exact aft_mono2 (fun e h q => whGo_succ q) h2
    | false => exact h2
theorem whGo_le {c : DE Bool} {body : DS} {n k : Nat} {env : En} {hp : AH} {r : Fl × En × AH} (h : whGo c body n env hp = some r) (l : n ≤ k) : whGo c body k env hp = some r := by
  induction l with
  | refl => exact h
  | step _ ih => exact whGo_succ ih
open Classical in
noncomputable def dWhile (c : DE Bool) (body : DS) : DS := fun env hp => if h : ∃ r n, whGo c body n env hp = some r then some (Classical.choose h) else none
theorem dWhile_iff {c : DE Bool} {body : DS} {env : En} {hp : AH} {r : Fl × En × AH} : dWhile c body env hp = some r ↔ ∃ n, whGo c body n env hp = some r := by
  unfold dWhile
  constructor
  · intro h
    split at h
    · rename_i q
      have := Classical.choose_spec q
      cases h
      exact this
    · cases h
  · rintro ⟨n, h⟩
    have q : ∃ r n, whGo c body n env hp = some r := ⟨r, n, h⟩
    rw [dif_pos q]
    obtain ⟨k, hk⟩ := Classical.choose_spec q
    have h1 := whGo_le h (Nat.le_max_left n k)
    have h2 := whGo_le hk (Nat.le_max_right n k)
    rw [h1] at h2
    exact h2.symm
/-- one turn -/
theorem dWhile_eq {c : DE Bool} {body : DS} {env : En} {hp : AH} : dWhile c body env hp = bS (c env hp) env fun x h1 => if x then aft (body env h1) (dWhile c body) else some (.next, env, h1) := by
  apply Option.ext
  intro r
  constructor
  · intro h
    obtain ⟨n, h⟩ := dWhile_iff.mp h
    cases n with
    | zero => cases h
    | succ n =>
      have h' : (bS (c env hp) env fun x h1 => if x then aft (body env h1) (whGo c body n) else some (.next, env, h1)) = some r := h
      refine bS_mono (fun a h1 h2 => ?_) h'
      cases a with
      | true => exact aft_mono2 (fun e h q => dWhile_iff.mpr ⟨n, q⟩) h2
      | false => exact h2
  · intro h
    have key : ∃ n, (bS (c env hp) env fun x h1 => if x then aft (body env h1) (whGo c body n) else some (.next, env, h1)) = some r := by
      unfold bS at h ⊢
      split at h
      · cases h
      · exact ⟨0, h⟩
      · rename_i x h1 q
        cases x with
        | false => exact ⟨0, h⟩
        | true =>
          have h : aft (body env h1) (dWhile c body) = some r := h
          cases q2 : body env h1 with
          | none => rw [q2] at h; cases h
          | some z =>
            obtain ⟨f, e, hh⟩ := z
            rw [q2] at h
            cases f with
            | next =>
              obtain ⟨n, hn⟩ := dWhile_iff.mp h
              exact ⟨n, by show aft (body env h1) _ = _; rw [q2]; exact hn⟩
            | cont =>
              obtain ⟨n, hn⟩ := dWhile_iff.mp h
              exact ⟨n, by show aft (body env h1) _ = _; rw [q2]; exact hn⟩
            | brk => exact ⟨0, by show aft (body env h1) _ = _; rw [q2]; exact h⟩
            | ret d => exact ⟨0, by show aft (body env h1) _ = _; rw [q2]; exact h⟩
            | exc x => exact ⟨0, by show aft (body env h1) _ = _; rw [q2]; exact h⟩
    obtain ⟨n, hn⟩ := key
    exact dWhile_iff.mpr ⟨n + 1, hn⟩
section
variable {X : Cx} {W : WX} {pos : Pos} {c : Expr} {body : List Stmt} {dc : DE Bool} {b : DS}
theorem ms_while (hpo : PassesOwn (model X.prog X.w) X.A X.env X.xe) (hc : MT X W c dc) (hb : MSs X W body b) : MS X W (.While c body [] pos) (dWhile dc b) := by
  refine (ps_while hpo hc hb).weak fun D σ H h => ?_
  obtain ⟨env, hp, m, s, f, env', hp', e, p⟩ := h
  obtain ⟨n, hn⟩ := dWhile_iff.mp e
  refine ⟨fun n σ H => ∃ env hp m, Stt X.K H m env hp σ ∧ whGo dc b n env hp = some (f, env', hp') ∧ PstS X.K X.mg W D H m f env' hp', ⟨n, env, hp, m, s, hn, p⟩, ?_⟩
  rintro n σ H ⟨env, hp, m, s, e, p⟩
  cases n with
  | zero => cases e
  | succ n =>
    unfold whGo at e
    refine toR_stepS s e p fun x hp1 e1 v H1 m1 E1 s1 rv p1 => ?_
    cases rv
    cases x with
    | false =>
      cases e1
      exact iteF (p1 _ _ _ .refl s1)
    | true =>
      refine iteT ⟨fun σ' H' => ∃ env hp m, Stt X.K H' m env hp σ' ∧ whGo dc b n env hp = some (f, env', hp') ∧ PstS X.K X.mg W D H' m f env' hp', fun σ' H' q => ⟨n, Nat.lt_succ_self n, q⟩, ?_⟩
      have e1 : aft (b env hp1) (whGo dc b n) = some (f, env', hp') := e1
      cases q : b env hp1 with
      | none => rw [q] at e1; cases e1
      | some z =>
        obtain ⟨f2, env2, hp2⟩ := z
        rw [q] at e1
        refine ⟨env, hp1, m1, s1, f2, env2, hp2, q, ?_⟩
        cases f2 with
        | next => exact fun σ2 H2 m2 E2 s2 => ⟨env2, hp2, m2, s2, e1, p1.mono E2⟩
        | cont => exact fun σ2 H2 m2 E2 s2 => ⟨env2, hp2, m2, s2, e1, p1.mono E2⟩
        | brk => cases e1; exact p1
        | ret d => cases e1; exact p1
        | exc x => cases e1; exact p1
end
end MP
end

section
set_option maxHeartbeats 2000000
/-! MpLoop: what a loop goes over; for. -/
namespace MP
open PySem PySem.Spec L2

inductive Src where
  | fix (xs : List D) | live (l : Nat)
def Src.nxt : Src → Nat → AH → Option (Option D)
  | .fix xs, i, _ => some xs[i]?
  | .live l, i, hp => match hp[l]? with
    | some (.lst xs) => some xs[i]?
    | some (.rol xs) => some xs[i]?
    | _ => none
structure WalkD (K : PySem.W.Frag) (J : It) (z : Src) (H0 : Hp) (m0 : Ma) : Prop where
  go : ∀ i H m hp d, ExW K H0 m0 H m → Obs K H m hp → z.nxt i hp = some (some d) → J.go i H ∧ ∀ x H', J.yld i H x H' → DV K m H' d x ∧ Ext K H m H' m ∧ Obs K H' m hp
  stop : ∀ i H m hp, ExW K H0 m0 H m → Obs K H m hp → z.nxt i hp = some none → J.stop i H
abbrev RI (K : PySem.W.Frag) : RelT Src It := fun m H z J => WalkD K J z H m
abbrev MI (X : Cx) (W : WX) (tg e : Expr) (d : DE Src) : Prop := PI X tg e (toR X.K X.mg W (RI X.K) d)
section
variable {K : PySem.W.Frag} {H : Hp} {m : Ma} {a : Addr}
theorem WalkD.ofL {xs : List D} {vs : List V} (h : VL m H a vs) (r : DVs K m H xs vs) : WalkD K (Itl K a) (.fix xs) H m where
  go := fun i H1 m1 hp d e ob q => by
    have q : xs[i]? = some d := Option.some.inj q
    obtain ⟨v, h1, h2⟩ := (r.monoW e).get q
    have hs : SqL K H1 a vs := (h.monoW e).sq
    refine ⟨⟨vs, v, hs, h1⟩, fun x H' y => ?_⟩
    obtain ⟨rfl, y⟩ := y
    have := y vs hs
    rw [h1] at this
    cases this
    exact ⟨h2, .refl, ob⟩
  stop := fun i H1 m1 hp e ob q => by
    have q : xs[i]? = none := Option.some.inj q
    exact ⟨vs, (h.monoW e).sq, by rw [← r.length]; exact List.getElem?_eq_none_iff.mp q⟩
theorem WalkD.ofR {xs : List D} {vs : List V} (h : RL K m H a vs) (r : DVs K m H xs vs) : WalkD K (Itl K a) (.fix xs) H m where
  go := fun i H1 m1 hp d e ob q => by
    have q : xs[i]? = some d := Option.some.inj q
    obtain ⟨v, h1, h2⟩ := (r.monoW e).get q
    have hs : SqL K H1 a vs := (h.monoW e).sq
    refine ⟨⟨vs, v, hs, h1⟩, fun x H' y => ?_⟩
    obtain ⟨rfl, y⟩ := y
    have := y vs hs
    rw [h1] at this
    cases this
    exact ⟨h2, .refl, ob⟩
  stop := fun i H1 m1 hp e ob q => by
    have q : xs[i]? = none := Option.some.inj q
    exact ⟨vs, (h.monoW e).sq, by rw [← r.length]; exact List.getElem?_eq_none_iff.mp q⟩
theorem WalkD.ofT {xs : List D} {vs : List V} (h : SqT K H a vs) (r : DVs K m H xs vs) : WalkD K (Itt K a) (.fix xs) H m where
  go := fun i H1 m1 hp d e ob q => by
    have q : xs[i]? = some d := Option.some.inj q
    obtain ⟨v, h1, h2⟩ := (r.monoW e).get q
    have hs : SqT K H1 a vs := e.sq _ _ h
    refine ⟨⟨vs, v, hs, h1⟩, fun x H' y => ?_⟩
    obtain ⟨rfl, y⟩ := y
    have := y vs hs
    rw [h1] at this
    cases this
    exact ⟨h2, .refl, ob⟩
  stop := fun i H1 m1 hp e ob q => by
    have q : xs[i]? = none := Option.some.inj q
    exact ⟨vs, e.sq _ _ h, by rw [← r.length]; exact List.getElem?_eq_none_iff.mp q⟩
/-- a list of ours, as it stands -/
theorem live_at {l : Nat} {H0 : Hp} {m0 : Ma} {hp : AH} {xs : List D} (h : m0.own[l]? = some (some a)) (e : ExW K H0 m0 H m) (ob : Obs K H m hp) (q : hp[l]? = some (.lst xs) ∨ hp[l]? = some (.rol xs)) : ∃ vs, SqL K H a vs ∧ DVs K m H xs vs := by
  rcases q with q | q
  · obtain ⟨a', h', vs, z, r⟩ := ob.get q (by intro z; cases z)
    rcases e.mm _ _ h with w | w
    · rw [h'] at w; cases w
      exact ⟨vs, .inl (.inl z), r⟩
    · rw [h'] at w; cases w
  · obtain ⟨a', h', o, vs, z, r⟩ := ob.get q (by intro z; cases z)
    rcases e.mm _ _ h with w | w
    · rw [h'] at w; cases w
      exact ⟨vs, .inl (.inr ⟨o, z⟩), r⟩
    · rw [h'] at w; cases w
theorem nxt_live {l i : Nat} {hp : AH} {o : Option D} (h : (Src.live l).nxt i hp = some o) : ∃ xs, (hp[l]? = some (.lst xs) ∨ hp[l]? = some (.rol xs)) ∧ xs[i]? = o := by
  unfold Src.nxt at h
  simp only at h
  split at h
  · rename_i xs q; exact ⟨xs, .inl q, Option.some.inj h⟩
  · rename_i xs q; exact ⟨xs, .inr q, Option.some.inj h⟩
  · cases h
theorem WalkD.live {l : Nat} (h : m.own[l]? = some (some a)) : WalkD K (Itl K a) (.live l) H m where
  go := fun i H1 m1 hp d e ob q => by
    obtain ⟨xs, q1, q2⟩ := nxt_live q
    obtain ⟨vs, hs, r⟩ := live_at h e ob q1
    obtain ⟨v, h1, h2⟩ := r.get q2
    refine ⟨⟨vs, v, hs, h1⟩, fun x H' y => ?_⟩
    obtain ⟨rfl, y⟩ := y
    have := y vs hs
    rw [h1] at this
    cases this
    exact ⟨h2, .refl, ob⟩
  stop := fun i H1 m1 hp e ob q => by
    obtain ⟨xs, q1, q2⟩ := nxt_live q
    obtain ⟨vs, hs, r⟩ := live_at h e ob q1
    exact ⟨vs, hs, by rw [← r.length]; exact List.getElem?_eq_none_iff.mp q2⟩
def rngL (lo : Int) (n : Nat) : List D := (List.range n).map fun (i : Nat) => .int (lo + i)
def rngC (lo c : Int) (n : Nat) : List D := (List.range n).map fun (i : Nat) => .int (lo + i * c)
theorem WalkD.rng {lo : Int} {n : Nat} : WalkD K (L2.Itr lo n) (.fix (rngL lo n)) H m where
  go := fun i H1 m1 hp d e ob q => by
    have q : (rngL lo n)[i]? = some d := Option.some.inj q
    unfold rngL at q
    rw [List.getElem?_map] at q
    obtain ⟨k, hk, rfl⟩ := Option.map_eq_some_iff.mp q
    obtain ⟨hl, hk⟩ := List.getElem?_eq_some_iff.mp hk
    simp at hl hk
    subst hk
    refine ⟨hl, fun x H' y => ?_⟩
    obtain ⟨rfl, rfl⟩ := y
    exact ⟨.int _, .refl, ob⟩
  stop := fun i H1 m1 hp e ob q => by
    have q : (rngL lo n)[i]? = none := Option.some.inj q
    have := List.getElem?_eq_none_iff.mp q
    unfold rngL at this
    have h : n ≤ i := by simpa using this
    exact h
theorem WalkD.rngC {lo c : Int} {n : Nat} : WalkD K (L2.Itc lo c n) (.fix (rngC lo c n)) H m where
  go := fun i H1 m1 hp d e ob q => by
    have q : (MP.rngC lo c n)[i]? = some d := Option.some.inj q
    unfold MP.rngC at q
    rw [List.getElem?_map] at q
    obtain ⟨k, hk, rfl⟩ := Option.map_eq_some_iff.mp q
    obtain ⟨hl, hk⟩ := List.getElem?_eq_some_iff.mp hk
    simp at hl hk
    subst hk
    refine ⟨hl, fun x H' y => ?_⟩
    obtain ⟨rfl, rfl⟩ := y
    exact ⟨.int _, .refl, ob⟩
  stop := fun i H1 m1 hp e ob q => by
    have q : (MP.rngC lo c n)[i]? = none := Option.some.inj q
    have := List.getElem?_eq_none_iff.mp q
    unfold MP.rngC at this
    have h : n ≤ i := by simpa using this
    exact h
def chs (x : Str) : List D := x.cps.toList.map fun c => .str ⟨#[c]⟩
theorem WalkD.str {x : Str} : WalkD K (L2.Its x) (.fix (chs x)) H m where
  go := fun i H1 m1 hp d e ob q => by
    have q : (chs x)[i]? = some d := Option.some.inj q
    unfold chs at q
    rw [List.getElem?_map] at q
    obtain ⟨k, hk, rfl⟩ := Option.map_eq_some_iff.mp q
    have hk : x.cps[i]? = some k := by simpa using hk
    obtain ⟨hl, _⟩ := Array.getElem?_eq_some_iff.mp hk
    refine ⟨hl, fun y H' q => ?_⟩
    obtain ⟨rfl, c, hc, rfl⟩ := q
    rw [hk] at hc; cases hc
    exact ⟨.str _, .refl, ob⟩
  stop := fun i H1 m1 hp e ob q => by
    have q : (chs x)[i]? = none := Option.some.inj q
    have := List.getElem?_eq_none_iff.mp q
    unfold chs at this
    have h : x.cps.size ≤ i := by simpa using this
    exact h
end
/-- what an expression's value gives out -/
def srcOf (hp : AH) : D → Option Src
  | .tup xs => some (.fix xs)
  | .vls xs => some (.fix xs)
  | .rls xs => some (.fix xs)
  | .str x => some (.fix (chs x))
  | .ref l => match hp[l]? with
    | some (.lst _) => some (.live l)
    | some (.rol _) => some (.live l)
    | _ => none
  | _ => none
def dSrc (a : DE D) : DE Src := fun env hp => bE (a env hp) fun x h1 => match srcOf h1 x with
  | some z => some (.val z, h1)
  | none => none
section
variable {X : Cx} {W : WX} {tg e : Expr} {da : DE D}
theorem mi_of (h : ME X W e da) : MI X W tg e (dSrc da) := by
  refine ⟨fun pins s σ H R I hw => ?_⟩
  obtain ⟨env, hp, m, st, r, hp', q, p⟩ := hw
  -- the value's kind
  cases q0 : da env hp with
  | none => unfold dSrc at q; rw [q0] at q; cases q
  | some z =>
    obtain ⟨o, g1⟩ := z
    unfold dSrc at q
    rw [q0] at q
    cases o with
    | exc x =>
      have e' : (Out.exc x, g1) = (r, hp') := Option.some.inj q
      cases e'
      exact (pi_list (tg := tg) h).run pins s σ H R I ⟨env, hp, m, st, .exc x, _, q0, p⟩
    | val x =>
      have q : (match srcOf g1 x with
        | some z => some (Out.val z, g1)
        | none => none) = some (r, hp') := q
      cases x with
      | tup xs =>
        cases q
        refine (pi_tup (tg := tg) h).run pins s σ H R I ⟨env, hp, m, st, .val (.tup xs), _, q0, fun v H1 m1 E1 ob1 rv => ?_⟩
        cases rv with
        | tup a1 a2 => exact ⟨_, rfl, ⟨_, a1⟩, p _ H1 m1 E1 ob1 (WalkD.ofT a1 a2)⟩
      | vls xs =>
        cases q
        refine (pi_list (tg := tg) h).run pins s σ H R I ⟨env, hp, m, st, .val (.vls xs), _, q0, fun v H1 m1 E1 ob1 rv => ?_⟩
        cases rv with
        | vls a1 a2 => exact ⟨_, rfl, ⟨_, a1.sq⟩, p _ H1 m1 E1 ob1 (WalkD.ofL a1 a2)⟩
      | rls xs =>
        cases q
        refine (pi_list (tg := tg) h).run pins s σ H R I ⟨env, hp, m, st, .val (.rls xs), _, q0, fun v H1 m1 E1 ob1 rv => ?_⟩
        cases rv with
        | rls a1 a2 => exact ⟨_, rfl, ⟨_, a1.sq⟩, p _ H1 m1 E1 ob1 (WalkD.ofR a1 a2)⟩
      | str x =>
        cases q
        refine (pi_str (tg := tg) h).run pins s σ H R I ⟨env, hp, m, st, .val (.str x), _, q0, fun v H1 m1 E1 ob1 rv => ?_⟩
        cases rv
        exact ⟨_, rfl, p _ H1 m1 E1 ob1 WalkD.str⟩
      | ref l =>
        have key : ∃ xs, lstOfR g1 (.ref l) = some xs ∧ (Out.val (Src.live l), g1) = (r, hp') := by
          simp only [srcOf] at q
          split at q
          · rename_i z w
            split at w
            · rename_i xs z'; cases w; exact ⟨xs, by simp only [lstOfR, z'], Option.some.inj q⟩
            · rename_i xs z'; cases w; exact ⟨xs, by simp only [lstOfR, z'], Option.some.inj q⟩
            · cases w
          · cases q
        obtain ⟨xs, hx, z⟩ := key
        cases z
        refine (pi_list (tg := tg) h).run pins s σ H R I ⟨env, hp, m, st, .val (.ref l), _, q0, fun v H1 m1 E1 ob1 rv => ?_⟩
        obtain ⟨a, vs, rfl, hs, r'⟩ := lstOfR_at ob1 rv hx
        have own : m1.own[l]? = some (some a) := by
          cases rv with
          | ref w => exact w
          | dead w =>
            exfalso
            simp only [lstOfR] at hx
            split at hx
            · rename_i z
              obtain ⟨_, h', _⟩ := ob1.get z (by intro z; cases z)
              rw [w] at h'; cases h'
            · rename_i z
              obtain ⟨_, h', _⟩ := ob1.get z (by intro z; cases z)
              rw [w] at h'; cases h'
            · cases hx
        exact ⟨_, rfl, ⟨_, hs⟩, p _ H1 m1 E1 ob1 (WalkD.live own)⟩
      | non => cases q
      | bl b => cases q
      | int i => cases q
      | exn c => cases q
      | exf c f x => cases q
def small62 (i : Int) : Bool := decide (-(2 ^ 62) ≤ i) && decide (i < 2 ^ 62)
theorem small62_of {i : Int} (h : small62 i = true) : -(2 ^ 62) ≤ i ∧ i < 2 ^ 62 := by
  unfold small62 at h
  simpa using h
def rg1 : List D → Option (List D)
  | [.int j] => if small62 j then some (rngL 0 j.toNat) else none
  | _ => none
def rg2 : List D → Option (List D)
  | [.int i, .int j] => if small62 i && small62 j then some (rngL i (j - i).toNat) else none
  | _ => none
/-- range(i, j, -1) -/
def rg3 : List D → Option (List D)
  | [.int i, .int j, .int c] => if small62 i && small62 j && c == -1 then some (rngC i (-1) (i - j).toNat) else none
  | _ => none
def dRg (f : List D → Option (List D)) (a : DE (List D)) : DE Src := fun env hp => bE (a env hp) fun xs h1 => match f xs with
  | some ys => some (.val (.fix ys), h1)
  | none => none
theorem DVs.three {K : PySem.W.Frag} {m : Ma} {H : Hp} {d e f : D} {vs : List V} (h : DVs K m H [d, e, f] vs) : ∃ u v w, vs = [u, v, w] ∧ DV K m H d u ∧ DV K m H e v ∧ DV K m H f w := by
  cases h with
  | cons h t =>
    obtain ⟨v, w, rfl, q, q'⟩ := t.two
    exact ⟨_, v, w, rfl, h, q, q'⟩
variable {a b c : Expr} {das : DE (List D)} {p pos : Pos}
theorem mi_range1 (hg : Gl X "range") (hm : X.mg "range" = none) (ha : MA X W [a] das) (hs : starEach [a] X.env = [(false, eval a X.env)] := by rfl) : MI X W tg (.Call (.Name "range" p) [a] [] pos) (dRg rg1 das) := by
  refine ⟨fun pins s σ H R I hw => (pi_range1 (tg := tg) hg hm ha hs).run pins s σ H R I ?_⟩
  obtain ⟨env, hp, m, s, r, hp', e, p⟩ := hw
  refine toR_step s e p fun xs hp1 e1 v H1 m1 E1 s1 rv p1 => ?_
  split at e1
  · rename_i ys hy
    cases e1
    unfold rg1 at hy
    split at hy
    · split at hy
      · rename_i hj
        cases hy
        obtain ⟨v, rfl, dv⟩ := rv.one
        cases dv
        exact ⟨_, rfl, (small62_of hj).1, (small62_of hj).2, p1 _ H1 m1 .refl s1.ob WalkD.rng⟩
      · cases hy
    · cases hy
  · cases e1
theorem mi_range2 (hg : Gl X "range") (hm : X.mg "range" = none) (ha : MA X W [a, b] das) (hs : starEach [a, b] X.env = [(false, eval a X.env), (false, eval b X.env)] := by rfl) (hs2 : starEach [b] X.env = [(false, eval b X.env)] := by rfl) :
    MI X W tg (.Call (.Name "range" p) [a, b] [] pos) (dRg rg2 das) := by
  refine ⟨fun pins s σ H R I hw => (pi_range2 (tg := tg) hg hm ha hs hs2).run pins s σ H R I ?_⟩
  obtain ⟨env, hp, m, s, r, hp', e, p⟩ := hw
  refine toR_step s e p fun xs hp1 e1 v H1 m1 E1 s1 rv p1 => ?_
  split at e1
  · rename_i ys hy
    cases e1
    unfold rg2 at hy
    split at hy
    · split at hy
      · rename_i hj
        cases hy
        simp only [Bool.and_eq_true] at hj
        obtain ⟨v, w, rfl, dv, dw⟩ := rv.two
        cases dv; cases dw
        exact ⟨_, _, rfl, ⟨(small62_of hj.1).1, (small62_of hj.1).2, (small62_of hj.2).1, (small62_of hj.2).2⟩, p1 _ H1 m1 .refl s1.ob WalkD.rng⟩
      · cases hy
    · cases hy
  · cases e1
theorem mi_range3 (hg : Gl X "range") (hm : X.mg "range" = none) (ha : MA X W [a, b, c] das) (hs : starEach [a, b, c] X.env = (false, eval a X.env) :: starEach [b, c] X.env := by rfl) (hpl : (backTo pos (starEach [b, c] X.env)).any (·.1) = false := by rfl) :
    MI X W tg (.Call (.Name "range" p) [a, b, c] [] pos) (dRg rg3 das) := by
  refine ⟨fun pins s σ H R I hw => (pi_range3 (tg := tg) hg hm ha hs hpl).run pins s σ H R I ?_⟩
  obtain ⟨env, hp, m, s, r, hp', e, p⟩ := hw
  refine toR_step s e p fun xs hp1 e1 v H1 m1 E1 s1 rv p1 => ?_
  split at e1
  · rename_i ys hy
    cases e1
    unfold rg3 at hy
    split at hy
    · split at hy
      · rename_i hj
        cases hy
        simp only [Bool.and_eq_true, beq_iff_eq] at hj
        obtain ⟨u, v, w, rfl, du, dv, dw⟩ := rv.three
        cases du; cases dv; cases dw
        obtain ⟨⟨h1, h2⟩, rfl⟩ := hj
        exact ⟨_, _, _, _, rfl, RgC.neg (small62_of h1).1 (small62_of h1).2 (small62_of h2).1 (small62_of h2).2, p1 _ H1 m1 .refl s1.ob WalkD.rngC⟩
      · cases hy
    · cases hy
  · cases e1
end

/-! ### for -/
def forL (t : TgD) (b : DS) : List D → DS
  | [], env, hp => some (.next, env, hp)
  | d :: r, env, hp => (t d env hp).bind fun z => aft (b z.1 z.2) (forL t b r)
def forGo (z : Src) (t : TgD) (b : DS) : Nat → Nat → DS
  | 0, _, _, _ => none
  | n + 1, i, env, hp => match z.nxt i hp with
    | none => none
    | some none => some (.next, env, hp)
    | some (some d) => (t d env hp).bind fun w => aft (b w.1 w.2) (forGo z t b n (i + 1))
open Classical in
noncomputable def forLive (l : Nat) (t : TgD) (b : DS) : DS := fun env hp => if h : ∃ r n, forGo (.live l) t b n 0 env hp = some r then some (Classical.choose h) else none
noncomputable def dFor (it : DE Src) (t : TgD) (b : DS) : DS := fun env hp => bS (it env hp) env fun z h1 => match z with
  | .fix xs => forL t b xs env h1
  | .live l => forLive l t b env h1
theorem forGo_fix {xs : List D} {t : TgD} {b : DS} : ∀ (n i : Nat) (env : En) (hp : AH), i + n = xs.length → forGo (.fix xs) t b (n + 1) i env hp = forL t b (xs.drop i) env hp
  | 0, i, env, hp, h => by
    have : xs.drop i = [] := List.drop_eq_nil_of_le (by omega)
    have h2 : xs[i]? = none := List.getElem?_eq_none (by omega)
    rw [this]
    unfold forGo
    simp only [Src.nxt, h2, forL]
  | n + 1, i, env, hp, h => by
    have hl : i < xs.length := by omega
    have : xs.drop i = xs[i] :: xs.drop (i + 1) := (List.drop_eq_getElem_cons hl)
    have h2 : xs[i]? = some xs[i] := List.getElem?_eq_getElem hl
    rw [this]
    rw [forGo]
    simp only [Src.nxt, h2, forL]
    congr 1
    funext z
    congr 1
    funext e1 h1
    exact forGo_fix n (i + 1) e1 h1 (by omega)
/-- a for's run with fuel -/
theorem dFor_go {z : Src} {t : TgD} {b : DS} {env : En} {hp : AH} {r : Fl × En × AH} (h : (match z with
  | .fix xs => forL t b xs env hp
  | .live l => forLive l t b env hp) = some r) : ∃ n, forGo z t b n 0 env hp = some r := by
  cases z with
  | fix xs => exact ⟨xs.length + 1, by rw [forGo_fix _ _ _ _ (by omega)]; simpa using h⟩
  | live l =>
    simp only at h
    unfold forLive at h
    split at h
    · rename_i q
      have := Classical.choose_spec q
      cases h
      exact this
    · cases h
section
variable {X : Cx} {W : WX} {pos : Pos} {tg iter : Expr} {body : List Stmt} {di : DE Src} {t : TgD} {ws : List Nat} {b : DS}
theorem ms_for (hpo : PassesOwn (model X.prog X.w) X.A X.env X.xe) (hc : X.calm = true) (hi : MI X W tg iter di) (hg : MG X ws tg t) (hb : MSs X W body b) (hs : ∀ x, foldedSetIterable iter X.env x = pure x := by intro _; rfl) :
    MS X W (.For tg iter body [] pos) (dFor di t b) := by
  refine (ps_for hpo hc hi hg hb hs).weak fun D σ H h => ?_
  obtain ⟨env, hp, m, s, f, env', hp', e, p⟩ := h
  refine toR_stepS s e p fun z hp1 e1 J H1 m1 E1 s1 rv p1 => ?_
  obtain ⟨n, hn⟩ := dFor_go e1
  refine ⟨fun i n σ H => ∃ env hp m, Stt X.K H m env hp σ ∧ Ext X.K H1 m1 H m ∧ forGo z t b n i env hp = some (f, env', hp') ∧ PstS X.K X.mg W D H m f env' hp', ⟨n, env, hp1, m1, s1, .refl, hn, p1⟩, ?_⟩
  rintro i n σ H ⟨env, hp, m, s, E, e, p⟩
  cases n with
  | zero => cases e
  | succ n =>
    unfold forGo at e
    cases q : z.nxt i hp with
    | none => rw [q] at e; cases e
    | some o =>
      rw [q] at e
      cases o with
      | none =>
        cases e
        exact .inl ⟨rv.stop i H m _ E.toW s.ob q, p _ _ _ .refl s⟩
      | some d =>
        obtain ⟨g, gy⟩ := rv.go i H m hp d E.toW s.ob q
        refine .inr ⟨g, fun σ' H' => ∃ env hp m, Stt X.K H' m env hp σ' ∧ Ext X.K H1 m1 H' m ∧ forGo z t b n (i + 1) env hp = some (f, env', hp') ∧ PstS X.K X.mg W D H' m f env' hp', fun σ' H' q => ⟨n, Nat.lt_succ_self n, q⟩, fun x H' y => ?_⟩
        obtain ⟨dv, E2, ob2⟩ := gy x H' y
        obtain ⟨w, e2, e3⟩ := Option.bind_eq_some_iff.mp e
        refine ⟨env, hp, m, d, w.1, w.2, s.step E2 ob2, dv, e2, fun σ3 H3 m3 E3 s3 _ => ?_⟩
        have p3 := p.mono (E2.trans E3)
        have EE := E.trans (E2.trans E3)
        cases q4 : b w.1 w.2 with
        | none => rw [q4] at e3; cases e3
        | some y4 =>
          obtain ⟨f4, env4, hp4⟩ := y4
          rw [q4] at e3
          refine ⟨w.1, w.2, m3, s3, f4, env4, hp4, q4, ?_⟩
          cases f4 with
          | next => exact fun σ5 H5 m5 E5 s5 => ⟨env4, hp4, m5, s5, EE.trans E5, e3, p3.mono E5⟩
          | cont => exact fun σ5 H5 m5 E5 s5 => ⟨env4, hp4, m5, s5, EE.trans E5, e3, p3.mono E5⟩
          | brk => cases e3; exact p3
          | ret d => cases e3; exact p3
          | exc x => cases e3; exact p3
end
end MP
end

section
set_option maxHeartbeats 2000000
/-! MpComp: new lists (kept as values, or numbered), list comprehensions. -/
namespace MP
open PySem PySem.Spec L2

def Ma.hide (m : Ma) (p : Addr) : Ma := ⟨m.own, fun b => m.out b ∨ b = p⟩
def Ma.bare (m : Ma) (p : Addr) : Ma := ⟨m.own, fun b => m.out b ∧ b ≠ p⟩
def Ma.adopt (m : Ma) (p : Addr) : Ma := ⟨m.own ++ [some p], fun b => m.out b ∧ b ≠ p⟩
section
variable {K : PySem.W.Frag} {H H1 : Hp} {m m1 : Ma} {hp : AH} {env : En} {σ : St} {p : Addr} {o : HO}
mutual
theorem DV.shift (h1 : ∀ (l : Nat) x, m.own[l]? = some x → m1.own[l]? = some x) (h2 : ∀ b, Free m b → Free m1 b) : ∀ {d : D} {v : V}, DV K m H d v → DV K m1 H d v
  | _, _, .non => .non
  | _, _, .bl b => .bl b
  | _, _, .int i => .int i
  | _, _, .str s => .str s
  | _, _, .tup h t => .tup h (DVs.shift h1 h2 t)
  | _, _, .vls h t => .vls ⟨h.1, h2 _ h.2⟩ (DVs.shift h1 h2 t)
  | _, _, .ref h => .ref (h1 _ _ h)
  | _, _, .dead h => .dead (h1 _ _ h)
  | _, _, .exn g h f => .exn g h (h2 _ f)
  | _, _, .exf g h k f f' t => .exf g h k (h2 _ f) (h2 _ f') (DV.shift h1 h2 t)
  | _, _, .rls h t => .rls (h.elim (fun ⟨o, h, f⟩ => .inl ⟨o, h, h2 _ f⟩) .inr) (DVs.shift h1 h2 t)
theorem DVs.shift (h1 : ∀ (l : Nat) x, m.own[l]? = some x → m1.own[l]? = some x) (h2 : ∀ b, Free m b → Free m1 b) : ∀ {d : List D} {v : List V}, DVs K m H d v → DVs K m1 H d v
  | _, _, .nil => .nil
  | _, _, .cons h t => .cons (DV.shift h1 h2 h) (DVs.shift h1 h2 t)
end
theorem KVs.shift (h1 : ∀ (l : Nat) x, m.own[l]? = some x → m1.own[l]? = some x) (h2 : ∀ b, Free m b → Free m1 b) : ∀ {d : List (Key × D)} {v : List (Key × V)}, KVs K m H d v → KVs K m1 H d v
  | _, _, .nil => .nil
  | _, _, .cons h t => .cons (h.shift h1 h2) (KVs.shift h1 h2 t)
theorem OV.shift (h1 : ∀ (l : Nat) x, m.own[l]? = some x → m1.own[l]? = some x) (h2 : ∀ b, Free m b → Free m1 b) {a : Addr} {b : Ob} (h : OV K m H a b) : OV K m1 H a b := by
  cases b with
  | lst xs => obtain ⟨vs, z, r⟩ := h; exact ⟨vs, z, r.shift h1 h2⟩
  | rol xs => obtain ⟨o, vs, z, r⟩ := h; exact ⟨o, vs, z, r.shift h1 h2⟩
  | dct xs => obtain ⟨vs, z, r⟩ := h; exact ⟨vs, z, r.shift h1 h2⟩
  | dlk xs => obtain ⟨o, vs, z, r⟩ := h; exact ⟨o, vs, z, r.shift h1 h2⟩
  | dead => exact h
theorem free_bare {b : Addr} (h : Free m b) : Free (m.bare p) b := ⟨h.1, fun z => h.2 z.1⟩
theorem free_adopt {b : Addr} (hp : m.out p) (h : Free m b) : Free (m.adopt p) b := ⟨fun l q => by
  unfold Ma.adopt at q
  by_cases hl : l < m.own.length
  · rw [List.getElem?_append_left hl] at q
    exact h.1 l q
  · rw [List.getElem?_append_right (by omega)] at q
    have h1 := (List.getElem?_eq_some_iff.mp q).1
    have : l - m.own.length = 0 := by simp at h1; omega
    rw [this] at q
    have e : p = b := by simpa using q
    subst e
    exact h.2 hp, fun z => h.2 z.1⟩
theorem own_adopt (l : Nat) (x) (h : m.own[l]? = some x) : (m.adopt p).own[l]? = some x := by
  unfold Ma.adopt
  rw [List.getElem?_append_left (List.getElem?_eq_some_iff.mp h).1]; exact h
theorem Ext.hide (hn : H p = none) : Ext K H m (upd H p o) (m.hide p) where
  mm := fun _ _ h => .inl h
  ou := fun a h => h.elim .inl fun e => .inr (by rw [e]; exact hn)
  ol := fun _ h => .inl h
  fr := fun a u h _ => by rw [upd_ne (ne_of_none h hn)]; exact h
  nw := fun _ _ h => .inl h
  th := upd_th
  sq := sqT_new hn
theorem Obs.hide (ob : Obs K H m hp) (hn : H p = none) : Obs K (upd H p o) (m.hide p) hp :=
  ⟨ob.len, fun a h => h.elim (fun h => (ob.ot a h).elim fun o z => upd_th a o z) fun e => ⟨o, by rw [e, upd_same]⟩, ob.inj, fun l a h => by
    obtain ⟨b, hb, z⟩ := ob.obj l a h
    obtain ⟨u, hu⟩ := z.there
    exact ⟨b, hb, z.mono (Ext.hide hn) (upd_ne (ne_of_none hu hn))⟩, ob.adr, fun l a h z => z.elim (ob.dj l a h) fun e => (ob.free hn).1 l (by rw [← e]; exact h)⟩
/-- the hidden one shown again -/
theorem Ext.bare (e : Ext K H m H1 m1) (ob : Obs K H m hp) (hn : H p = none) : Ext K H m H1 (m1.bare p) where
  mm := e.mm
  ou := fun a h => e.ou a h.1
  ol := fun a h => ⟨e.ol a h, fun q => by
    subst q
    obtain ⟨u, z⟩ := ob.ot a h
    rw [hn] at z; cases z⟩
  fr := e.fr
  nw := e.nw
  th := e.th
  sq := e.sq
theorem Obs.bare (ob : Obs K H m hp) : Obs K H (m.bare p) hp :=
  ⟨ob.len, fun a h => ob.ot a h.1, ob.inj, fun l a h => by
    obtain ⟨b, hb, z⟩ := ob.obj l a h
    exact ⟨b, hb, OV.shift (m := m) (m1 := m.bare p) (fun _ _ h => h) (fun _ h => free_bare h) z⟩, ob.adr, fun l a h z => ob.dj l a h z.1⟩
theorem Ext.adopt (e : Ext K H m H1 m1) (ob : Obs K H m hp) (hn : H p = none) : Ext K H m H1 (m1.adopt p) where
  mm := fun l x h => (e.mm l x h).elim (fun z => .inl (own_adopt _ _ z)) fun z => .inr (own_adopt _ _ z)
  ou := fun a h => e.ou a h.1
  ol := fun a h => ⟨e.ol a h, fun q => by
    subst q
    obtain ⟨u, z⟩ := ob.ot a h
    rw [hn] at z; cases z⟩
  fr := e.fr
  nw := fun l a h => by
    unfold Ma.adopt at h
    by_cases hl : l < m1.own.length
    · rw [List.getElem?_append_left hl] at h
      exact e.nw l a h
    · rw [List.getElem?_append_right (by omega)] at h
      have h1 := (List.getElem?_eq_some_iff.mp h).1
      have : l - m1.own.length = 0 := by simp at h1; omega
      rw [this] at h
      have q : p = a := by simpa using h
      exact .inr (by rw [← q]; exact hn)
  th := e.th
  sq := e.sq
theorem Obs.adopt {b : Ob} (ob : Obs K H m hp) (ho : m.out p) (no : NotOwn m p) (hb : OV K m H p b) : Obs K H (m.adopt p) (hp ++ [b]) where
  len := by unfold Ma.adopt; rw [List.length_append, List.length_append, ob.len]; rfl
  ot := fun a h => ob.ot a h.1
  dj := fun l a h z => by
    unfold Ma.adopt at h
    by_cases hl : l < m.own.length
    · rw [List.getElem?_append_left hl] at h
      exact ob.dj l a h z.1
    · rw [List.getElem?_append_right (by omega)] at h
      have h1 := (List.getElem?_eq_some_iff.mp h).1
      have : l - m.own.length = 0 := by simp at h1; omega
      rw [this] at h
      have e : p = a := by simpa using h
      exact z.2 e.symm
  inj := fun l l' a h h' => by
    have last : ∀ l : Nat, (m.own ++ [some p])[l]? = some (some a) → (m.own[l]? = some (some a) ∧ a ≠ p) ∨ (l = m.own.length ∧ a = p) := fun l h => by
      by_cases hl : l < m.own.length
      · rw [List.getElem?_append_left hl] at h
        exact .inl ⟨h, fun e => no l (by rw [← e]; exact h)⟩
      · rw [List.getElem?_append_right (by omega)] at h
        have h1 := (List.getElem?_eq_some_iff.mp h).1
        have : l - m.own.length = 0 := by simp at h1; omega
        rw [this] at h
        exact .inr ⟨by omega, by simpa using h.symm⟩
    rcases last l h with ⟨a1, a2⟩ | ⟨a1, a2⟩ <;> rcases last l' h' with ⟨b1, b2⟩ | ⟨b1, b2⟩
    · exact ob.inj l l' a a1 b1
    · exact absurd b2 a2
    · exact absurd a2 b2
    · rw [a1, b1]
  obj := fun l a h => by
    by_cases hl : l < m.own.length
    · have h' : m.own[l]? = some (some a) := by
        unfold Ma.adopt at h
        rw [List.getElem?_append_left hl] at h; exact h
      obtain ⟨c, hc, z⟩ := ob.obj l a h'
      exact ⟨c, by rw [List.getElem?_append_left (by rw [← ob.len]; exact hl)]; exact hc, z.shift own_adopt fun _ => free_adopt ho⟩
    · have h' := h
      unfold Ma.adopt at h'
      rw [List.getElem?_append_right (by omega)] at h'
      have h1 := (List.getElem?_eq_some_iff.mp h').1
      have h2 : l - m.own.length = 0 := by simp at h1; omega
      rw [h2] at h'
      have e : p = a := by simpa using h'
      subst e
      refine ⟨b, ?_, hb.shift own_adopt fun _ => free_adopt ho⟩
      rw [List.getElem?_append_right (by rw [← ob.len]; omega), ← ob.len, h2]
      rfl
  adr := fun l c h hc => by
    by_cases hl : l < hp.length
    · rw [List.getElem?_append_left hl] at h
      obtain ⟨a, q⟩ := ob.adr l c h hc
      exact ⟨a, own_adopt _ _ q⟩
    · rw [List.getElem?_append_right (by omega)] at h
      have h1 := (List.getElem?_eq_some_iff.mp h).1
      have h2 : l - hp.length = 0 := by simp at h1; omega
      exact ⟨p, by unfold Ma.adopt; rw [List.getElem?_append_right (by rw [ob.len]; omega), ob.len, h2]; rfl⟩
mutual
theorem DV.outUpd {ws : List V} (ho : m.out p) (hl : H p = some (.lst ws)) : ∀ {d : D} {v : V}, DV K m H d v → DV K m (upd H p o) d v
  | _, _, .non => .non
  | _, _, .bl b => .bl b
  | _, _, .int i => .int i
  | _, _, .str s => .str s
  | _, _, .tup h t => .tup (by
      rcases h with (h | ⟨u, h⟩) | h
      · exact .inl (.inl (by rw [upd_ne (fun e => by rw [e, hl] at h; cases h)]; exact h))
      · exact .inl (.inr ⟨u, by rw [upd_ne (fun e => by rw [e, hl] at h; cases h)]; exact h⟩)
      · exact .inr h) (DVs.outUpd ho hl t)
  | _, _, .vls h t => .vls ⟨by rw [upd_ne (fun e => h.2.2 (by rw [e]; exact ho))]; exact h.1, h.2⟩ (DVs.outUpd ho hl t)
  | _, _, .ref h => .ref h
  | _, _, .dead h => .dead h
  | _, _, .exn g h f => .exn g (by rw [upd_ne (fun e => f.2 (by rw [e]; exact ho))]; exact h) f
  | _, _, .exf g h k f f' t => .exf g (by rw [upd_ne (fun e => f.2 (by rw [e]; exact ho))]; exact h) (by rw [upd_ne (fun e => f'.2 (by rw [e]; exact ho))]; exact k) f f' (DV.outUpd ho hl t)
  | _, _, .rls h t => .rls (h.elim (fun ⟨o, h, f⟩ => .inl ⟨o, by rw [upd_ne (fun e => f.2 (by rw [e]; exact ho))]; exact h, f⟩) .inr) (DVs.outUpd ho hl t)
theorem DVs.outUpd {ws : List V} (ho : m.out p) (hl : H p = some (.lst ws)) : ∀ {d : List D} {v : List V}, DVs K m H d v → DVs K m (upd H p o) d v
  | _, _, .nil => .nil
  | _, _, .cons h t => .cons (DV.outUpd ho hl h) (DVs.outUpd ho hl t)
end
theorem KVs.outUpd {ws : List V} (ho : m.out p) (hl : H p = some (.lst ws)) : ∀ {d : List (Key × D)} {v : List (Key × V)}, KVs K m H d v → KVs K m (upd H p o) d v
  | _, _, .nil => .nil
  | _, _, .cons h t => .cons (h.outUpd ho hl) (KVs.outUpd ho hl t)
theorem EnV.outUpd {ws : List V} (ho : m.out p) (hl : H p = some (.lst ws)) : ∀ {env : En} {σ : St}, EnV K m H env σ → EnV K m (upd H p o) env σ
  | _, _, .nil => .nil
  | _, _, .yes h t => .yes (h.outUpd ho hl) (EnV.outUpd ho hl t)
  | _, _, .no t => .no (EnV.outUpd ho hl t)
theorem OV.outUpd {ws : List V} {a : Addr} {b : Ob} (ho : m.out p) (hl : H p = some (.lst ws)) (ha : a ≠ p) (h : OV K m H a b) : OV K m (upd H p o) a b := by
  cases b with
  | lst xs => obtain ⟨vs, z, r⟩ := h; exact ⟨vs, by rw [upd_ne ha]; exact z, r.outUpd ho hl⟩
  | rol xs => obtain ⟨o, vs, z, r⟩ := h; exact ⟨o, vs, by rw [upd_ne ha]; exact z, r.outUpd ho hl⟩
  | dct xs => obtain ⟨vs, z, r⟩ := h; exact ⟨vs, by rw [upd_ne ha]; exact z, r.outUpd ho hl⟩
  | dlk xs => obtain ⟨o, vs, z, r⟩ := h; exact ⟨o, vs, by rw [upd_ne ha]; exact z, r.outUpd ho hl⟩
  | dead => exact h
theorem Obs.outUpd {ws : List V} (ob : Obs K H m hp) (ho : m.out p) (no : NotOwn m p) (hl : H p = some (.lst ws)) : Obs K (upd H p o) m hp :=
  ⟨ob.len, fun a h => (ob.ot a h).elim fun o z => upd_th a o z, ob.inj, fun l a h => by
    obtain ⟨b, hb, z⟩ := ob.obj l a h
    exact ⟨b, hb, z.outUpd ho hl fun e => no l (by rw [← e]; exact h)⟩, ob.adr, ob.dj⟩
/-- against a heap in which it was not yet -/
theorem Ext.mut (e : Ext K H m H1 m1) (hn : H p = none) : Ext K H m (upd H1 p o) m1 where
  mm := e.mm
  ou := e.ou
  ol := e.ol
  fr := fun a u h f => by
    rw [upd_ne (ne_of_none h hn)]
    exact e.fr a u h f
  nw := e.nw
  th := fun a u h => (e.th a u h).elim fun w z => upd_th a w z
  sq := fun a vs h => by
    rcases h with (h | ⟨u, h⟩) | h
    · have := e.sq a vs (.inl (.inl h))
      have ne := ne_of_none h hn
      rcases this with (w | ⟨u, w⟩) | w
      · exact .inl (.inl (by rw [upd_ne ne]; exact w))
      · exact .inl (.inr ⟨u, by rw [upd_ne ne]; exact w⟩)
      · exact .inr w
    · have := e.sq a vs (.inl (.inr ⟨u, h⟩))
      have ne := ne_of_none h hn
      rcases this with (w | ⟨u, w⟩) | w
      · exact .inl (.inl (by rw [upd_ne ne]; exact w))
      · exact .inl (.inr ⟨u, by rw [upd_ne ne]; exact w⟩)
      · exact .inr w
    · exact .inr h
end

theorem ExW.outUpd {K : PySem.W.Frag} {H H1 : Hp} {m m1 : Ma} {p : Addr} {o : HO} {ws : List V} (e : ExW K H m H1 m1) (ho : m.out p) (hl : H1 p = some (.lst ws)) : ExW K H m (upd H1 p o) m1 where
  mm := e.mm
  ou := e.ou
  ol := e.ol
  fr := fun a u h f => by
    rw [upd_ne (fun z => f.2 (by rw [z]; exact ho))]
    exact e.fr a u h f
  nw := e.nw
  th := fun a u h => (e.th a u h).elim fun w z => upd_th a w z
  sq := fun a vs h => by
    rcases e.sq a vs h with (h | ⟨u, h⟩) | h
    · exact .inl (.inl (by rw [upd_ne (fun e => by rw [e, hl] at h; cases h)]; exact h))
    · exact .inl (.inr ⟨u, by rw [upd_ne (fun e => by rw [e, hl] at h; cases h)]; exact h⟩)
    · exact .inr h

/-! ### expressions that give a new list -/
def PstF (K : PySem.W.Frag) (mg : Str → Option Value) (W : WX) (H : Hp) (m : Ma) (σ : St) (r : Out (List D)) (hp' : AH) (Q : VK) : Prop := match r with
  | .val xs => ∀ a vs H' m', Ext K H m H' m' → Obs K H' m' hp' → m'.out a → NotOwn m' a → H a = none → H' a = some (.lst vs) → DVs K m' H' xs vs → Q (.ref a) H'
  | .exc e => ∀ c dd H' m', Ext K H m H' m' → Obs K H' m' hp' → ExV mg e c dd → W c dd σ H'
def toF (K : PySem.W.Frag) (mg : Str → Option Value) (W : WX) (d : DE (List D)) : TE := fun σ H Q => ∃ env hp m, Stt K H m env hp σ ∧ ∃ r hp', d env hp = some (r, hp') ∧ PstF K mg W H m σ r hp' Q
abbrev MF (X : Cx) (W : WX) (e : Expr) (d : DE (List D)) : Prop := PE X e (toF X.K X.mg W d)
/-- kept as a value -/
def dFrz (d : DE (List D)) : DE D := fun env hp => bE (d env hp) fun xs h1 => some (.val (.vls xs), h1)
/-- with a number -/
def dNew (d : DE (List D)) : DE D := fun env hp => bE (d env hp) fun xs h1 => some (.val (.ref h1.length), h1 ++ [.lst xs])
section
variable {X : Cx} {W : WX} {e : Expr} {d : DE (List D)}
theorem frz_read {σ : St} {H : Hp} {Q : VK} (hh : toR X.K X.mg W (RD X.K) (dFrz d) σ H Q) : toF X.K X.mg W d σ H Q := by
  obtain ⟨env, hp, m, s, r, hp', e, p⟩ := hh
  cases q : d env hp with
  | none => unfold dFrz at e; rw [q] at e; cases e
  | some z =>
    obtain ⟨o, h1⟩ := z
    unfold dFrz at e
    rw [q] at e
    cases o with
    | exc x =>
      have e' : (Out.exc x, h1) = (r, hp') := Option.some.inj e
      cases e'
      exact ⟨env, hp, m, s, _, _, q, p⟩
    | val xs =>
      have e' : (Out.val (D.vls xs), h1) = (r, hp') := Option.some.inj e
      cases e'
      refine ⟨env, hp, m, s, _, _, q, fun a vs H' m' E ob ho no hn ha r => ?_⟩
      refine p _ H' (m'.bare a) (E.bare s.ob hn) ob.bare (.vls ⟨ha, no, fun z => z.2 rfl⟩ (DVs.shift (m := m') (m1 := m'.bare a) (fun _ _ h => h) (fun _ h => free_bare h) r))
theorem me_frz (h : MF X W e d) : ME X W e (dFrz d) := h.weak fun _ _ _ => frz_read
theorem new_read {σ : St} {H : Hp} {Q : VK} (hh : toR X.K X.mg W (RD X.K) (dNew d) σ H Q) : toF X.K X.mg W d σ H Q := by
  obtain ⟨env, hp, m, s, r, hp', e, p⟩ := hh
  cases q : d env hp with
  | none => unfold dNew at e; rw [q] at e; cases e
  | some z =>
    obtain ⟨o, h1⟩ := z
    unfold dNew at e
    rw [q] at e
    cases o with
    | exc x =>
      have e' : (Out.exc x, h1) = (r, hp') := Option.some.inj e
      cases e'
      exact ⟨env, hp, m, s, _, _, q, p⟩
    | val xs =>
      have e' : (Out.val (D.ref h1.length), h1 ++ [Ob.lst xs]) = (r, hp') := Option.some.inj e
      cases e'
      refine ⟨env, hp, m, s, _, _, q, fun a vs H' m' E ob ho no hn ha r => ?_⟩
      refine p _ H' (m'.adopt a) (E.adopt s.ob hn) (ob.adopt ho no ⟨vs, ha, r⟩) (.ref ?_)
      unfold Ma.adopt
      rw [List.getElem?_append_right (by rw [ob.len]; exact Nat.le_refl _), ob.len, Nat.sub_self]
      rfl
theorem me_new (h : MF X W e d) : ME X W e (dNew d) := h.weak fun _ _ _ => new_read
/-- a new list at a, the run's other part done -/
theorem toF_new {σ : St} {H : Hp} {m : Ma} {env : En} {hp : AH} {r : Out (List D)} {hp' : AH} {Q : VK} {α : Type} {ω : Type} {R : RelT α ω} {da : DE α} {k : α → AH → Mo (List D)} {Q' : ω → Hp → Prop} (s : Stt X.K H m env hp σ) (e : bE (da env hp) k = some (r, hp')) (p : PstF X.K X.mg W H m σ r hp' Q)
    (hv : ∀ x hp1, k x hp1 = some (r, hp') → ∀ v H1 m1, Ext X.K H m H1 m1 → Stt X.K H1 m1 env hp1 σ → R m1 H1 x v → PstF X.K X.mg W H1 m1 σ r hp' Q → Q' v H1) : toR X.K X.mg W R da σ H Q' := by
  cases q : da env hp with
  | none => rw [q] at e; cases e
  | some z =>
    obtain ⟨o, h1⟩ := z
    rw [q] at e
    cases o with
    | val x =>
      refine ⟨env, hp, m, s, .val x, h1, q, fun v H1 m1 f ob rv => hv x h1 e v H1 m1 f (s.step f ob) rv ?_⟩
      cases r with
      | val xs => exact fun a vs H' m' E ob ho no hn ha r => p a vs H' m' (f.trans E) ob ho no (f.back hn) ha r
      | exc x => exact fun c dd H' m' E => p c dd H' m' (f.trans E)
    | exc x =>
      have e' : (Out.exc x, h1) = (r, hp') := Option.some.inj e
      cases e'
      exact ⟨env, hp, m, s, .exc x, _, q, p⟩
theorem PstF.laid {H : Hp} {m : Ma} {σ : St} {hp : AH} {Q : VK} {a : Addr} {xs : List D} {vs : List V} (p : PstF X.K X.mg W H m σ (.val xs) hp Q) (ob : Obs X.K H m hp) (hn : H a = none) (r : DVs X.K m H xs vs) : Q (.ref a) (upd H a (.lst vs)) :=
  p a vs _ (m.hide a) (.hide hn) (ob.hide hn) (.inr rfl) (fun l q => (ob.free hn).1 l q) hn upd_same (r.mono (.hide hn))
def dLim (ds : DE (List D)) : DE (List D) := fun env hp => bE (ds env hp) fun xs h1 => if xs.length ≤ lim then some (.val xs, h1) else none
theorem mf_lst {es : List Expr} {pos : Pos} {ds : DE (List D)} (h : MA X W es ds) : MF X W (.List es pos) (dLim ds) := by
  refine (pe_lst h).weak fun σ H Q h => ?_
  obtain ⟨env, hp, m, s, r, hp', e, p⟩ := h
  refine toF_new s e p fun xs hp1 e1 vs H1 m1 E1 s1 rv p1 => ?_
  split at e1
  · rename_i hl
    cases e1
    have hl2 : vs.length ≤ sizeLine := by rw [← rv.length, lim_eq]; exact hl
    exact ⟨hl2, fun a ha => p1.laid s1.ob ha rv⟩
  · cases e1
end

/-! ### comprehensions -/
open Classical in
noncomputable def lcG (z : Src) (t : TgD) (c : DE Bool) (bd : En → AH → Option (List D × AH)) (env0 : En) : Nat → List D → AH → Option (List D × AH)
  | i, [], hp => if z.nxt i hp = some none then some ([], hp) else none
  | i, d :: r, hp => if z.nxt i hp = some (some d) then (t d env0 hp).bind fun w => match c w.1 w.2 with
      | some (.val true, h1) => (bd w.1 h1).bind fun y => (lcG z t c bd env0 (i + 1) r y.2).map fun u => (y.1 ++ u.1, u.2)
      | some (.val false, h1) => lcG z t c bd env0 (i + 1) r h1
      | _ => none
    else none
def lcL (t : TgD) (c : DE Bool) (bd : En → AH → Option (List D × AH)) (env0 : En) : List D → AH → Option (List D × AH)
  | [], hp => some ([], hp)
  | d :: r, hp => (t d env0 hp).bind fun w => match c w.1 w.2 with
      | some (.val true, h1) => (bd w.1 h1).bind fun y => (lcL t c bd env0 r y.2).map fun u => (y.1 ++ u.1, u.2)
      | some (.val false, h1) => lcL t c bd env0 r h1
      | _ => none
theorem lcG_fix {xs : List D} {t : TgD} {c : DE Bool} {bd : En → AH → Option (List D × AH)} {env0 : En} : ∀ (n i : Nat) (hp : AH), i + n = xs.length → lcG (.fix xs) t c bd env0 i (xs.drop i) hp = lcL t c bd env0 (xs.drop i) hp
  | 0, i, hp, h => by
    have : xs.drop i = [] := List.drop_eq_nil_of_le (by omega)
    rw [this]
    unfold lcG lcL
    rw [if_pos]
    simp only [Src.nxt]
    rw [List.getElem?_eq_none (by omega)]
  | n + 1, i, hp, h => by
    have hl : i < xs.length := by omega
    have : xs.drop i = xs[i] :: xs.drop (i + 1) := (List.drop_eq_getElem_cons hl)
    rw [this]
    rw [lcG, lcL, if_pos (by simp only [Src.nxt]; rw [List.getElem?_eq_getElem hl])]
    congr 1
    funext w
    have ih := fun hp => lcG_fix (xs := xs) (t := t) (c := c) (bd := bd) (env0 := env0) n (i + 1) hp (by omega)
    simp only [ih]
noncomputable def lcRun (z : Src) (t : TgD) (c : DE Bool) (bd : En → AH → Option (List D × AH)) (env0 : En) (hp : AH) : Option (List D × AH) := match z with
  | .fix xs => lcL t c bd env0 xs hp
  | .live l => match hp[l]? with
    | some (.lst xs) => lcG (.live l) t c bd env0 0 xs hp
    | some (.rol xs) => lcG (.live l) t c bd env0 0 xs hp
    | _ => none
theorem lcRun_go {z : Src} {t : TgD} {c : DE Bool} {bd : En → AH → Option (List D × AH)} {env0 : En} {hp : AH} {r : List D × AH} (h : lcRun z t c bd env0 hp = some r) : ∃ xs, lcG z t c bd env0 0 xs hp = some r := by
  cases z with
  | fix xs =>
    refine ⟨xs, ?_⟩
    have := lcG_fix (xs := xs) (t := t) (c := c) (bd := bd) (env0 := env0) xs.length 0 hp (by omega)
    simp only [List.drop_zero] at this
    rw [this]
    exact h
  | live l =>
    unfold lcRun at h
    simp only at h
    split at h
    · exact ⟨_, h⟩
    · exact ⟨_, h⟩
    · cases h
def one1 (e : DE D) : En → AH → Option (List D × AH) := fun env hp => match e env hp with
  | some (.val y, h) => some ([y], h)
  | _ => none
noncomputable def two2 (di : DE Src) (t : TgD) (c : DE Bool) (bd : En → AH → Option (List D × AH)) (vs1 : List Nat) : En → AH → Option (List D × AH) := fun env hp => match di env hp with
  | some (.val z, h) => lcRun z t c bd (wipeE env vs1) h
  | _ => none
noncomputable def dLc (di : DE Src) (t : TgD) (c : DE Bool) (bd : En → AH → Option (List D × AH)) (vs : List Nat) : DE (List D) := fun env hp => bE (di env hp) fun z h1 => match lcRun z t c bd (wipeE env vs) h1 with
  | some (ys, h2) => if ys.length ≤ lim then some (.val ys, h2) else none
  | none => none
abbrev WN : WX := fun _ _ _ _ => False
def dYes : DE Bool := fun _ hp => some (.val true, hp)
section
variable {X : Cx} {W : WX} {tg iter elt tg1 iter1 : Expr} {ifs ifs1 : List Expr} {scope : Scope} {own : List (Str × Nat)} {pos : Pos} {di di1 : DE Src} {t t1 : TgD} {c c1 : DE Bool} {e : DE D} {ws ws1 vs1 : List Nat}
theorem mts_nil : PTs X [] (toR X.K X.mg WN RB dYes) := ⟨fun pins s σ H Q I h => by
  obtain ⟨env, hp, m, st, r, hp', e, p⟩ := h
  cases e
  exact pts_nil.run pins s σ H Q I (p true H m .refl st.ob rfl)⟩
theorem mts_one {ce : Expr} (h : MT X WN ce c) : PTs X [ce] (toR X.K X.mg WN RB c) := pts_one h
theorem wipe_wipe {σ : St} {vs : List Nat} : wipe (wipe σ vs) vs = wipe σ vs := by
  apply List.ext_getElem?
  intro j
  rw [wipe_get, wipe_get, wipe_length]
  by_cases h : j ∈ vs ∧ j < σ.length
  · rw [if_pos h, if_pos h]
  · rw [if_neg h, if_neg h]
structure LcIn (K : PySem.W.Frag) (H1 : Hp) (m1 : Ma) (D0 : Addr) (env0 : En) (σ0 : St) (ys : List D) (H : Hp) (m : Ma) (hp : AH) (acc rst : List D) (us : List V) : Prop where
  ext : Ext K H1 m1 H m
  out : m.out D0
  no : NotOwn m D0
  st : Stt K H m env0 hp σ0
  at_ : H D0 = some (.lst us)
  dv : DVs K m H acc us
  sum : ys = acc ++ rst
theorem LcIn.step {K : PySem.W.Frag} {H1 H H' : Hp} {m1 m m' : Ma} {D0 : Addr} {env0 : En} {σ0 : St} {ys acc rst : List D} {hp hp' : AH} {us : List V} (q : LcIn K H1 m1 D0 env0 σ0 ys H m hp acc rst us) (E : Ext K H m H' m') (ob : Obs K H' m' hp') :
    LcIn K H1 m1 D0 env0 σ0 ys H' m' hp' acc rst us :=
  ⟨q.ext.trans E, E.ol _ q.out, E.notOwn q.at_ q.no, q.st.step E ob, E.fr _ _ q.at_ q.no, q.dv.mono E, q.sum⟩
theorem LcIn.app {K : PySem.W.Frag} {H1 H : Hp} {m1 m : Ma} {D0 : Addr} {env0 : En} {σ0 : St} {ys acc rst : List D} {hp : AH} {us : List V} {y : D} {v : V} (q : LcIn K H1 m1 D0 env0 σ0 ys H m hp acc (y :: rst) us) (hn : H1 D0 = none) (r : DV K m H y v) :
    LcIn K H1 m1 D0 env0 σ0 ys (upd H D0 (.lst (us ++ [v]))) m hp (acc ++ [y]) rst (us ++ [v]) :=
  ⟨q.ext.mut hn, q.out, q.no, ⟨q.st.en.outUpd q.out q.at_, q.st.ob.outUpd q.out q.no q.at_⟩, upd_same, (q.dv.append (.cons r .nil)).outUpd q.out q.at_, by rw [q.sum, List.append_assoc]; rfl⟩
/-- [elt for tg in iter if ..] -/
theorem lc_read {σ : St} {H : Hp} {Q : VK} (hw : ∀ j ∈ ws, j ∈ own.map (·.2)) (h : toF X.K X.mg W (dLc di t c (one1 e) (own.map (·.2))) σ H Q) :
    tLc (toR X.K X.mg W (RI X.K) di) (toG X.K ws t) (toR X.K X.mg WN RB c) (toR X.K X.mg WN (RD X.K) e) (own.map (·.2)) σ H Q := by
  obtain ⟨env, hp, m, s, r, hp', q, p⟩ := h
  refine toF_new s q p fun z hp1 q1 J H1 m1 E1 s1 rv p1 => ?_
  split at q1
  · rename_i ys h2 hr
    split at q1
    · rename_i hl
      cases q1
      obtain ⟨xs, hx⟩ := lcRun_go hr
      intro D0 hD
      refine ⟨fun i n H => ∃ m hp acc rst rest us, n = rest.length ∧ LcIn X.K H1 m1 D0 (wipeE env (own.map (·.2))) (wipe σ (own.map (·.2))) ys H m hp acc rst us ∧ lcG z t c (one1 e) (wipeE env (own.map (·.2))) i rest hp = some (rst, hp'),
        ⟨xs.length, m1.hide D0, hp1, [], ys, xs, [], rfl, ⟨.hide hD, .inr rfl, fun l q => (s1.ob.free hD).1 l q, ⟨(s1.en.wipe _).mono (.hide hD), s1.ob.hide hD⟩, upd_same, .nil, rfl⟩, hx⟩, ?_⟩
      rintro i n H ⟨m, hp, acc, rst, rest, us, rfl, I, run⟩
      cases rest with
      | nil =>
        unfold lcG at run
        split at run
        · rename_i hz
          cases run
          refine .inl ⟨rv.stop i H m _ I.ext.toW I.st.ob hz, ?_⟩
          refine p1 D0 us H m I.ext I.st.ob I.out I.no hD I.at_ ?_
          rw [I.sum, List.append_nil]; exact I.dv
        · cases run
      | cons d rest =>
        rw [lcG] at run
        split at run
        · rename_i hz
          obtain ⟨w, r1, r2⟩ := Option.bind_eq_some_iff.mp run
          obtain ⟨g, gy⟩ := rv.go i H m hp d I.ext.toW I.st.ob hz
          refine .inr ⟨g, fun H' => ∃ m hp acc rst us, LcIn X.K H1 m1 D0 (wipeE env (own.map (·.2))) (wipe σ (own.map (·.2))) ys H' m hp acc rst us ∧ lcG z t c (one1 e) (wipeE env (own.map (·.2))) (i + 1) rest hp = some (rst, hp'),
            fun H' ⟨m, hp, acc, rst, us, a, b⟩ => ⟨rest.length, Nat.lt_succ_self _, m, hp, acc, rst, rest, us, rfl, a, b⟩, fun x H' y => ?_⟩
          obtain ⟨dv, E2, ob2⟩ := gy x H' y
          have I2 := I.step E2 ob2
          refine ⟨wipeE env (own.map (·.2)), hp, m, d, w.1, w.2, I2.st, dv, r1, fun σ3 H3 m3 E3 s3 ag => ⟨by rw [ag.wipe hw, wipe_wipe], ?_⟩⟩
          have I3 := I2.step E3 s3.ob
          cases hc1 : c w.1 w.2 with
          | none => rw [hc1] at r2; cases r2
          | some bo =>
            obtain ⟨bo, hp4⟩ := bo
            rw [hc1] at r2
            cases bo with
            | exc x => cases r2
            | val bo =>
              refine ⟨w.1, w.2, m3, s3, .val bo, hp4, hc1, fun b H4 m4 E4 ob4 rb => ?_⟩
              cases rb
              have I4 := I3.step E4 ob4
              have s4 := s3.step E4 ob4
              cases bo with
              | false =>
                rw [if_neg Bool.false_ne_true]
                exact ⟨m4, hp4, acc, rst, us, I4, r2⟩
              | true =>
                rw [if_pos rfl]
                obtain ⟨y, r3, r4⟩ := Option.bind_eq_some_iff.mp r2
                obtain ⟨u, r5, r6⟩ := Option.map_eq_some_iff.mp r4
                unfold one1 at r3
                split at r3
                · rename_i yv hp5 r7
                  cases r3
                  cases r6
                  refine ⟨w.1, hp4, m4, s4, .val yv, hp5, r7, fun v H5 m5 E5 ob5 rv5 => ?_⟩
                  have I5 := I4.step E5 ob5
                  refine ⟨us, I5.at_, ?_, m5, hp5, _, _, _, I5.app hD rv5, r5⟩
                  have hl2 : ys.length = acc.length + (u.1.length + 1) := by rw [I5.sum, List.length_append]; rfl
                  have hl3 := I5.dv.length
                  have := lim_eq
                  omega
                · cases r3
        · cases run
    · cases q1
  · cases q1
theorem mf_lc (hc : X.calm = true) (hN : X.N.Nodup) (hi : MI X W tg iter di) (ok : BlkOk X.N X.env.scope scope own) (hw : ∀ j ∈ ws, j ∈ own.map (·.2))
    (hg : ∀ (s : Shared) (H : Hp) (C : Addr) (cl : List (Str × Addr)) (fp : List Addr), MG (X.blk s H scope (compEnvC scope cl C X.env) fp) ws tg t)
    (ht : ∀ (s : Shared) (H : Hp) (C : Addr) (cl : List (Str × Addr)) (fp : List Addr), PTs (X.blk s H scope (compEnvC scope cl C X.env) fp) ifs (toR X.K X.mg WN RB c))
    (he : ∀ (s : Shared) (H : Hp) (C : Addr) (cl : List (Str × Addr)) (fp : List Addr), ME (X.blk s H scope (compEnvC scope cl C X.env) fp) WN elt e) (hs : ∀ x, foldedSetIterable iter X.env x = pure x := by intro _; rfl) :
    MF X W (.ListComp elt [⟨tg, iter, ifs, 0⟩] scope pos) (dLc di t c (one1 e) (own.map (·.2))) :=
  (pe_lc (g := toG X.K ws t) (te := toR X.K X.mg WN (RD X.K) e) hc hN hi ok hg ht he hs).weak fun _ _ _ h => lc_read hw h
/-- y = a new list, on one line -/
theorem set_run {i : Nat} {te : TE} {de : DE D} (hte : ∀ σ H Q, toR X.K X.mg W (RD X.K) de σ H Q → te σ H Q) {D : Ends} {σ : St} {H : Hp} (h : toS X.K X.mg W (dAsg de (tgName i)) D σ H) : tAsg te (gName i) D σ H := by
  obtain ⟨env, hp, m, s, f, env', hp', e, p⟩ := h
  refine hte σ H _ (toR_stepS s e p fun x hp1 e1 v H1 m1 E1 s1 rv p1 => ?_)
  cases e1
  exact p1 _ _ _ .refl ⟨s1.en.set rv i, s1.ob⟩
/-- how a new list is kept -/
def dKeep (n : Bool) (d : DE (List D)) : DE D := if n then dNew d else dFrz d
theorem keep_read {n : Bool} {d : DE (List D)} {σ : St} {H : Hp} {Q : VK} (hh : toR X.K X.mg W (RD X.K) (dKeep n d) σ H Q) : toF X.K X.mg W d σ H Q := by
  cases n with
  | false => exact frz_read hh
  | true => exact new_read hh
theorem me_keep {x : Expr} {d : DE (List D)} (n : Bool) (h : MF X W x d) : ME X W x (dKeep n d) := h.weak fun _ _ _ => keep_read
theorem ms_setLc {i : Nat} {y : Str} {py spos : Pos} (n : Bool) (hc : X.calm = true) (hN : X.N.Nodup) (hy : X.N[i]? = some y) (hyl : X.env.scope.names.lookup y = some .local)
    (hsw : swapsWith (.ListComp elt [⟨tg, iter, ifs, 0⟩] scope pos) (some (.Name y py)) spos.line X.env = pure true) (hi : MI X W tg iter di) (ok : BlkOk X.N X.env.scope scope own) (hw : ∀ j ∈ ws, j ∈ own.map (·.2))
    (hg : ∀ (s : Shared) (H : Hp) (C : Addr) (cl : List (Str × Addr)) (fp : List Addr), MG (X.blk s H scope (compEnvC scope cl C X.env) fp) ws tg t)
    (ht : ∀ (s : Shared) (H : Hp) (C : Addr) (cl : List (Str × Addr)) (fp : List Addr), PTs (X.blk s H scope (compEnvC scope cl C X.env) fp) ifs (toR X.K X.mg WN RB c))
    (he : ∀ (s : Shared) (H : Hp) (C : Addr) (cl : List (Str × Addr)) (fp : List Addr), ME (X.blk s H scope (compEnvC scope cl C X.env) fp) WN elt e) (hs : ∀ x, foldedSetIterable iter X.env x = pure x := by intro _; rfl) :
    MS X W (.Assign [.Name y py] (.ListComp elt [⟨tg, iter, ifs, 0⟩] scope pos) spos) (dAsg (dKeep n (dLc di t c (one1 e) (own.map (·.2)))) (tgName i)) :=
  (ps_setLc (g := toG X.K ws t) (te := toR X.K X.mg WN (RD X.K) e) hc hN hy hyl hsw hi ok hg ht he hs).weak fun _ _ _ h => set_run (fun _ _ _ q => lc_read hw (keep_read q)) h
/-- [elt for tg in iter if .. for tg1 in iter1 if ..] -/
theorem lc2_read {σ : St} {H : Hp} {Q : VK} (hw : ∀ j ∈ ws, j ∈ own.map (·.2)) (hw1 : ∀ j ∈ ws1, j ∈ vs1) (h : toF X.K X.mg W (dLc di t c (two2 di1 t1 c1 (one1 e) vs1) (own.map (·.2))) σ H Q) :
    tLc2 (toR X.K X.mg W (RI X.K) di) (toG X.K ws t) (toR X.K X.mg WN RB c) (toR X.K X.mg WN (RI X.K) di1) (toG X.K ws1 t1) (toR X.K X.mg WN RB c1) (toR X.K X.mg WN (RD X.K) e) (own.map (·.2)) vs1 σ H Q := by
  obtain ⟨env, hp, m, s, r, hp', q, p⟩ := h
  refine toF_new s q p fun z hp1 q1 J H1 m1 E1 s1 rv p1 => ?_
  split at q1
  · rename_i ys h2 hr
    split at q1
    · rename_i hl
      cases q1
      obtain ⟨xs, hx⟩ := lcRun_go hr
      intro D0 hD
      generalize hbd : two2 di1 t1 c1 (one1 e) vs1 = bd at hx
      refine ⟨fun i n H => ∃ m hp acc rst rest us, n = rest.length ∧ LcIn X.K H1 m1 D0 (wipeE env (own.map (·.2))) (wipe σ (own.map (·.2))) ys H m hp acc rst us ∧ lcG z t c bd (wipeE env (own.map (·.2))) i rest hp = some (rst, hp'),
        ⟨xs.length, m1.hide D0, hp1, [], ys, xs, [], rfl, ⟨.hide hD, .inr rfl, fun l q => (s1.ob.free hD).1 l q, ⟨(s1.en.wipe _).mono (.hide hD), s1.ob.hide hD⟩, upd_same, .nil, rfl⟩, hx⟩, ?_⟩
      rintro i n H ⟨m, hp, acc, rst, rest, us, rfl, I, run⟩
      cases rest with
      | nil =>
        unfold lcG at run
        split at run
        · rename_i hz
          cases run
          refine .inl ⟨rv.stop i H m _ I.ext.toW I.st.ob hz, ?_⟩
          refine p1 D0 us H m I.ext I.st.ob I.out I.no hD I.at_ ?_
          rw [I.sum, List.append_nil]; exact I.dv
        · cases run
      | cons d rest =>
        rw [lcG] at run
        split at run
        · rename_i hz
          obtain ⟨w, r1, r2⟩ := Option.bind_eq_some_iff.mp run
          obtain ⟨g, gy⟩ := rv.go i H m hp d I.ext.toW I.st.ob hz
          refine .inr ⟨g, fun H' => ∃ m hp acc rst us, LcIn X.K H1 m1 D0 (wipeE env (own.map (·.2))) (wipe σ (own.map (·.2))) ys H' m hp acc rst us ∧ lcG z t c bd (wipeE env (own.map (·.2))) (i + 1) rest hp = some (rst, hp'),
            fun H' ⟨m, hp, acc, rst, us, a, b⟩ => ⟨rest.length, Nat.lt_succ_self _, m, hp, acc, rst, rest, us, rfl, a, b⟩, fun x H' y => ?_⟩
          obtain ⟨dv, E2, ob2⟩ := gy x H' y
          have I2 := I.step E2 ob2
          refine ⟨wipeE env (own.map (·.2)), hp, m, d, w.1, w.2, I2.st, dv, r1, fun σ3 H3 m3 E3 s3 ag => ⟨by rw [ag.wipe hw, wipe_wipe], ?_⟩⟩
          have I3 := I2.step E3 s3.ob
          cases hc1 : c w.1 w.2 with
          | none => rw [hc1] at r2; cases r2
          | some bo =>
            obtain ⟨bo, hp4⟩ := bo
            rw [hc1] at r2
            cases bo with
            | exc x => cases r2
            | val bo =>
              refine ⟨w.1, w.2, m3, s3, .val bo, hp4, hc1, fun b H4 m4 E4 ob4 rb => ?_⟩
              cases rb
              have I4 := I3.step E4 ob4
              have s4 := s3.step E4 ob4
              cases bo with
              | false =>
                rw [if_neg Bool.false_ne_true]
                exact ⟨m4, hp4, acc, rst, us, I4, r2⟩
              | true =>
                rw [if_pos rfl]
                obtain ⟨y, r3, r4⟩ := Option.bind_eq_some_iff.mp r2
                obtain ⟨u, r5, r6⟩ := Option.map_eq_some_iff.mp r4
                obtain ⟨y1, y2⟩ := y
                obtain ⟨u1, u2⟩ := u
                cases r6
                rw [← hbd] at r3
                unfold two2 at r3
                split at r3
                · rename_i z1 hp5 r7
                  obtain ⟨xs1, hx1⟩ := lcRun_go r3
                  refine ⟨w.1, hp4, m4, s4, .val z1, hp5, r7, fun J1 H5 m5 E5 ob5 rv5 => ?_⟩
                  have I5 := I4.step E5 ob5
                  have s5 := s4.step E5 ob5
                  -- the inner loop
                  refine ⟨fun j k H => ∃ m hp acc rst rest us, k = rest.length ∧ LcIn X.K H1 m1 D0 (wipeE env (own.map (·.2))) (wipe σ (own.map (·.2))) ys H m hp acc (rst ++ u1) us ∧ ExW X.K H5 m5 H m ∧ Stt X.K H m (wipeE w.1 vs1) hp (wipe σ3 vs1) ∧ lcG z1 t1 c1 (one1 e) (wipeE w.1 vs1) j rest hp = some (rst, y2),
                    ⟨xs1.length, m5, hp5, acc, y1, xs1, us, rfl, I5, Ext.refl.toW, ⟨s5.en.wipe _, s5.ob⟩, hx1⟩, ?_⟩
                  rintro j k H ⟨m, hp, acc, rst, rest1, us, rfl, I, EE, S, run⟩
                  cases rest1 with
                  | nil =>
                    unfold lcG at run
                    split at run
                    · rename_i hz
                      cases run
                      exact .inl ⟨rv5.stop j H m _ EE S.ob hz, m, _, acc, u1, us, I, r5⟩
                    · cases run
                  | cons d rest1 =>
                    rw [lcG] at run
                    split at run
                    · rename_i hz
                      obtain ⟨w2, r1, r2⟩ := Option.bind_eq_some_iff.mp run
                      obtain ⟨g, gy⟩ := rv5.go j H m hp d EE S.ob hz
                      refine .inr ⟨g, fun H' => ∃ m hp acc rst us, LcIn X.K H1 m1 D0 (wipeE env (own.map (·.2))) (wipe σ (own.map (·.2))) ys H' m hp acc (rst ++ u1) us ∧ ExW X.K H5 m5 H' m ∧ Stt X.K H' m (wipeE w.1 vs1) hp (wipe σ3 vs1) ∧ lcG z1 t1 c1 (one1 e) (wipeE w.1 vs1) (j + 1) rest1 hp = some (rst, y2),
                        fun H' ⟨m, hp, acc, rst, us, a, b, c, d⟩ => ⟨rest1.length, Nat.lt_succ_self _, m, hp, acc, rst, rest1, us, rfl, a, b, c, d⟩, fun x H' y => ?_⟩
                      obtain ⟨dv, E2, ob2⟩ := gy x H' y
                      have I2 := I.step E2 ob2
                      have S2 := S.step E2 ob2
                      refine ⟨wipeE w.1 vs1, hp, m, d, w2.1, w2.2, S2, dv, r1, fun σ6 H6 m6 E6 s6 ag => ⟨by rw [ag.wipe hw1, wipe_wipe], ?_⟩⟩
                      have I6 := I2.step E6 s6.ob
                      have S6 := S2.step E6 s6.ob
                      have EE6 := EE.trans (E2.trans E6).toW
                      cases hc1 : c1 w2.1 w2.2 with
                      | none => rw [hc1] at r2; cases r2
                      | some bo =>
                        obtain ⟨bo, hp7⟩ := bo
                        rw [hc1] at r2
                        cases bo with
                        | exc x => cases r2
                        | val bo =>
                          refine ⟨w2.1, w2.2, m6, s6, .val bo, hp7, hc1, fun b H7 m7 E7 ob7 rb => ?_⟩
                          cases rb
                          have I7 := I6.step E7 ob7
                          have s7 := s6.step E7 ob7
                          have S7 := S6.step E7 ob7
                          cases bo with
                          | false =>
                            rw [if_neg Bool.false_ne_true]
                            exact ⟨m7, hp7, acc, rst, us, I7, EE6.trans E7.toW, S7, r2⟩
                          | true =>
                            rw [if_pos rfl]
                            obtain ⟨y, r3, r4⟩ := Option.bind_eq_some_iff.mp r2
                            obtain ⟨u, r15, r16⟩ := Option.map_eq_some_iff.mp r4
                            unfold one1 at r3
                            split at r3
                            · rename_i yv hp8 r9
                              cases r3
                              cases r16
                              refine ⟨w2.1, hp7, m7, s7, .val yv, hp8, r9, fun v H8 m8 E8 ob8 rv8 => ?_⟩
                              have I8 := I7.step E8 ob8
                              have S8 := S7.step E8 ob8
                              have EE8 := EE6.trans (E7.trans E8).toW
                              refine ⟨us, I8.at_, ?_, m8, hp8, _, u.1, _, LcIn.app (rst := u.1 ++ u1) I8 hD rv8, ?_, ⟨S8.en.outUpd I8.out I8.at_, S8.ob.outUpd I8.out I8.no I8.at_⟩, r15⟩
                              · have hl2 : ys.length = acc.length + ((yv :: u.1) ++ u1).length := by rw [I8.sum, List.length_append]; rfl
                                have hl3 := I8.dv.length
                                have := lim_eq
                                rw [List.length_append, List.length_cons] at hl2
                                omega
                              · exact EE8.outUpd I5.out I8.at_
                            · cases r3
                    · cases run
                · cases r3
        · cases run
    · cases q1
  · cases q1
theorem mf_lc2 (hc : X.calm = true) (hN : X.N.Nodup) (hi : MI X W tg iter di) (ok : BlkOk X.N X.env.scope scope own) (hv : ∀ i ∈ vs1, i ∈ own.map (·.2)) (hw : ∀ j ∈ ws, j ∈ own.map (·.2)) (hw1 : ∀ j ∈ ws1, j ∈ vs1)
    (hg : ∀ (s : Shared) (H : Hp) (C : Addr) (cl : List (Str × Addr)) (fp : List Addr), MG (X.blk s H scope (compEnvC scope cl C X.env) fp) ws tg t)
    (ht : ∀ (s : Shared) (H : Hp) (C : Addr) (cl : List (Str × Addr)) (fp : List Addr), PTs (X.blk s H scope (compEnvC scope cl C X.env) fp) ifs (toR X.K X.mg WN RB c))
    (hi1 : ∀ (s : Shared) (H : Hp) (C : Addr) (cl : List (Str × Addr)) (fp : List Addr), MI (X.blk s H scope (compEnvC scope cl C X.env) fp) WN tg1 iter1 di1)
    (hg1 : ∀ (s : Shared) (H : Hp) (C : Addr) (cl : List (Str × Addr)) (fp : List Addr), MG (X.blk s H scope (compEnvC scope cl C X.env) fp) ws1 tg1 t1)
    (ht1 : ∀ (s : Shared) (H : Hp) (C : Addr) (cl : List (Str × Addr)) (fp : List Addr), PTs (X.blk s H scope (compEnvC scope cl C X.env) fp) ifs1 (toR X.K X.mg WN RB c1))
    (he : ∀ (s : Shared) (H : Hp) (C : Addr) (cl : List (Str × Addr)) (fp : List Addr), ME (X.blk s H scope (compEnvC scope cl C X.env) fp) WN elt e) (hs : ∀ x, foldedSetIterable iter X.env x = pure x := by intro _; rfl) (hs1 : ∀ env x, foldedSetIterable iter1 env x = pure x := by intro _ _; rfl) :
    MF X W (.ListComp elt [⟨tg, iter, ifs, 0⟩, ⟨tg1, iter1, ifs1, 0⟩] scope pos) (dLc di t c (two2 di1 t1 c1 (one1 e) vs1) (own.map (·.2))) :=
  (pe_lc2 (g := toG X.K ws t) (g1 := toG X.K ws1 t1) (te := toR X.K X.mg WN (RD X.K) e) hc hN hi ok hv hg ht hi1 hg1 ht1 he hs hs1).weak fun _ _ _ h => lc2_read hw hw1 h
theorem ms_setLc2 {i : Nat} {y : Str} {py spos : Pos} (n : Bool) (hc : X.calm = true) (hN : X.N.Nodup) (hy : X.N[i]? = some y) (hyl : X.env.scope.names.lookup y = some .local)
    (hsw : swapsWith (.ListComp elt [⟨tg, iter, ifs, 0⟩, ⟨tg1, iter1, ifs1, 0⟩] scope pos) (some (.Name y py)) spos.line X.env = pure true) (hi : MI X W tg iter di) (ok : BlkOk X.N X.env.scope scope own) (hv : ∀ i ∈ vs1, i ∈ own.map (·.2)) (hw : ∀ j ∈ ws, j ∈ own.map (·.2)) (hw1 : ∀ j ∈ ws1, j ∈ vs1)
    (hg : ∀ (s : Shared) (H : Hp) (C : Addr) (cl : List (Str × Addr)) (fp : List Addr), MG (X.blk s H scope (compEnvC scope cl C X.env) fp) ws tg t)
    (ht : ∀ (s : Shared) (H : Hp) (C : Addr) (cl : List (Str × Addr)) (fp : List Addr), PTs (X.blk s H scope (compEnvC scope cl C X.env) fp) ifs (toR X.K X.mg WN RB c))
    (hi1 : ∀ (s : Shared) (H : Hp) (C : Addr) (cl : List (Str × Addr)) (fp : List Addr), MI (X.blk s H scope (compEnvC scope cl C X.env) fp) WN tg1 iter1 di1)
    (hg1 : ∀ (s : Shared) (H : Hp) (C : Addr) (cl : List (Str × Addr)) (fp : List Addr), MG (X.blk s H scope (compEnvC scope cl C X.env) fp) ws1 tg1 t1)
    (ht1 : ∀ (s : Shared) (H : Hp) (C : Addr) (cl : List (Str × Addr)) (fp : List Addr), PTs (X.blk s H scope (compEnvC scope cl C X.env) fp) ifs1 (toR X.K X.mg WN RB c1))
    (he : ∀ (s : Shared) (H : Hp) (C : Addr) (cl : List (Str × Addr)) (fp : List Addr), ME (X.blk s H scope (compEnvC scope cl C X.env) fp) WN elt e) (hs : ∀ x, foldedSetIterable iter X.env x = pure x := by intro _; rfl) (hs1 : ∀ env x, foldedSetIterable iter1 env x = pure x := by intro _ _; rfl) :
    MS X W (.Assign [.Name y py] (.ListComp elt [⟨tg, iter, ifs, 0⟩, ⟨tg1, iter1, ifs1, 0⟩] scope pos) spos) (dAsg (dKeep n (dLc di t c (two2 di1 t1 c1 (one1 e) vs1) (own.map (·.2)))) (tgName i)) :=
  (ps_setLc2 (g := toG X.K ws t) (g1 := toG X.K ws1 t1) (te := toR X.K X.mg WN (RD X.K) e) hc hN hy hyl hsw hi ok hv hg ht hi1 hg1 ht1 he hs hs1).weak fun _ _ _ h => set_run (fun _ _ _ q => lc2_read hw hw1 (keep_read q)) h
end
end MP
end

section
set_option maxHeartbeats 2000000
/-! MpMeth: methods that change lists, stores at places, dicts. -/
namespace MP
open PySem PySem.Spec L2

/-! ### methods by values -/
abbrev MC := AH → D → List D → Option (D × AH)
def rMF (K : PySem.W.Frag) (f : MC) : V → List V → Hp → VK → Prop := fun x vs H Q => ∃ hp m o xs z hp', Obs K H m hp ∧ DV K m H o x ∧ DVs K m H xs vs ∧ f hp o xs = some (z, hp') ∧ ∀ v H' m', Ext K H m H' m' → Obs K H' m' hp' → DV K m' H' z v → Q v H'
inductive Ty where
  | list | dict | str
  deriving DecidableEq
def Ty.name : Ty → String
  | .list => "list" | .dict => "dict" | .str => "str"
def isTy (hp : AH) (d : D) : Ty → Bool
  | .list => (lstOfR hp d).isSome
  | .str => match d with
    | .str _ => true
    | _ => false
  | .dict => match d with
    | .ref l => match hp[l]? with
      | some (.dct _) => true
      | _ => false
    | _ => false
def dM (T : Ty) (f : MC) (o : DE D) (a : DE (List D)) : DE D := fun env hp => bE (o env hp) fun x h1 => if isTy h1 x T then bE (a env h1) fun xs h2 => (match f h2 x xs with
  | some (z, h3) => some (.val z, h3)
  | none => none) else none
def dM0 (T : Ty) (f : MC) (o : DE D) : DE D := fun env hp => bE (o env hp) fun x h1 => if isTy h1 x T then (match f h1 x [] with
  | some (z, h3) => some (.val z, h3)
  | none => none) else none
theorem isTy_at {K : PySem.W.Frag} {m : Ma} {H : Hp} {hp : AH} {d : D} {v : V} {T : Ty} (ob : Obs K H m hp) (h : DV K m H d v) (e : isTy hp d T = true) : tyV K T.name v H := by
  cases T with
  | list =>
    obtain ⟨xs, hx⟩ := Option.isSome_iff_exists.mp (show (lstOfR hp d).isSome = true from e)
    obtain ⟨a, vs, rfl, hs, r⟩ := lstOfR_at ob h hx
    exact .inl ⟨rfl, vs, hs⟩
  | str =>
    unfold isTy at e
    simp only at e
    split at e
    · cases h; exact rfl
    · cases e
  | dict =>
    unfold isTy at e
    simp only at e
    split at e
    · split at e
      · rename_i q
        obtain ⟨a, h', ws, z, r⟩ := ob.get q (by intro z; cases z)
        cases h with
        | ref h2 =>
          rw [h2] at h'; cases h'
          exact .inr (.inr (.inl ⟨rfl, .inl ⟨_, z⟩⟩))
        | dead h2 => rw [h2] at h'; cases h'
      · cases e
    · cases e
section
variable {X : Cx} {W : WX} {o e : Expr} {es : List Expr} {dr : DE D} {da : DE (List D)} {f : MC} {name : Str} {apos cpos : Pos} {T : Ty} {id : String}
theorem me_m (pa : PlainAttrs T.name) (slot : Slot T.name name id) (hty : typeOf (.builtin id) = pure (.type "method_descriptor")) (hm : MtR X id (rMF X.K f)) (ho : ME X W o dr) (ha : MA X W (e :: es) da)
    (hbase : attributeBase o name X.env (eval o X.env) = eval o X.env := by rfl)
    (hfew : ((backTo cpos (starEach (e :: es) X.env)).all (fun x => !x.1) && (backToKw cpos (keywordEach [] X.env)).all (fun x => x.1.isSome)
      && decide ((e :: es).length + ([] : List Keyword).length + (if ([] : List Keyword).isEmpty then 0 else 1) < 30)) = true := by rfl)
    (hline : (apos.endLine == cpos.line) = true := by rfl) (hs : starEach (e :: es) X.env = (false, eval e X.env) :: starEach es X.env := by rfl) (hplain : (backTo cpos (starEach es X.env)).any (·.1) = false := by rfl) :
    ME X W (.Call (.Attribute o name apos) (e :: es) [] cpos) (dM T f dr da) := by
  refine (pe_bm pa slot hty hm ho ha hbase hfew hline hs hplain).weak fun σ H Q h => ?_
  obtain ⟨env, hp, m, s, r, hp', q, p⟩ := h
  refine toR_step s q p fun x hp1 q1 v H1 m1 E1 s1 rv p1 => ?_
  split at q1
  · rename_i ht
    refine ⟨isTy_at s1.ob rv ht, ?_⟩
    refine toR_step s1 q1 p1 fun xs hp2 q2 vs H2 m2 E2 s2 rvs p2 => ?_
    split at q2
    · rename_i z h3 hz
      cases q2
      exact ⟨hp2, m2, x, xs, z, _, s2.ob, rv.mono E2, rvs, hz, fun v' H' m' E' o' d' => p2 v' H' m' E' o' d'⟩
    · cases q2
  · cases q1
theorem me_m0 (pa : PlainAttrs T.name) (slot : Slot T.name name id) (hty : typeOf (.builtin id) = pure (.type "method_descriptor")) (hm : MtR X id (rMF X.K f)) (ho : ME X W o dr)
    (hbase : attributeBase o name X.env (eval o X.env) = eval o X.env := by rfl) (hline : (apos.endLine == cpos.line) = true := by rfl) : ME X W (.Call (.Attribute o name apos) [] [] cpos) (dM0 T f dr) := by
  refine (pe_bm0 pa slot hty hm ho hbase hline).weak fun σ H Q h => ?_
  obtain ⟨env, hp, m, s, r, hp', q, p⟩ := h
  refine toR_step s q p fun x hp1 q1 v H1 m1 E1 s1 rv p1 => ?_
  split at q1
  · rename_i ht
    refine ⟨isTy_at s1.ob rv ht, ?_⟩
    split at q1
    · rename_i z h3 hz
      cases q1
      exact ⟨hp1, m1, x, [], z, _, s1.ob, rv, .nil, hz, fun v' H' m' E' o' d' => p1 v' H' m' E' o' d'⟩
    · cases q1
  · cases q1
end

/-! ### lists that change -/
/-- a list of ours -/
def lstAt (hp : AH) : D → Option (Nat × List D)
  | .ref l => match hp[l]? with
    | some (.lst xs) => some (l, xs)
    | _ => none
  | _ => none
theorem lstAt_at {K : PySem.W.Frag} {m : Ma} {H : Hp} {hp : AH} {d : D} {v : V} {l : Nat} {xs : List D} (ob : Obs K H m hp) (h : DV K m H d v) (e : lstAt hp d = some (l, xs)) :
    ∃ a vs, v = .ref a ∧ m.own[l]? = some (some a) ∧ H a = some (.lst vs) ∧ DVs K m H xs vs := by
  unfold lstAt at e
  split at e
  · split at e
    · rename_i q
      cases e
      obtain ⟨a, h', vs, z, r⟩ := ob.get q (by intro z; cases z)
      cases h with
      | ref h2 => rw [h2] at h'; cases h'; exact ⟨_, vs, rfl, h2, z, r⟩
      | dead h2 => rw [h2] at h'; cases h'
    · cases e
  · cases e
theorem Ext.putL {K : PySem.W.Frag} {m : Ma} {H : Hp} {l : Nat} {a : Addr} {vs ws : List V} (hl : m.own[l]? = some (some a)) (h : H a = some (.lst vs)) : Ext K H m (upd H a (.lst ws)) m := Ext.put hl h (fun _ z => by cases z) fun _ _ z => by cases z
theorem Obs.putL {K : PySem.W.Frag} {m : Ma} {H : Hp} {hp : AH} {l : Nat} {a : Addr} {vs ws : List V} {ys : List D} (ob : Obs K H m hp) (hl : m.own[l]? = some (some a)) (h : H a = some (.lst vs)) (r : DVs K m H ys ws) : Obs K (upd H a (.lst ws)) m (hp.set l (.lst ys)) :=
  ob.put hl (Ext.putL hl h) ⟨ws, upd_same, r.mono (Ext.putL hl h)⟩
def appendM : MC := fun hp o xs => match lstAt hp o, xs with
  | some (l, ys), [y] => if ys.length < lim then some (.non, hp.set l (.lst (ys ++ [y]))) else none
  | _, _ => none
def extendM : MC := fun hp o xs => match lstAt hp o, xs with
  | some (l, ys), [b] => (lstOf hp b).bind fun zs => if ys.length + zs.length ≤ lim then some (.non, hp.set l (.lst (ys ++ zs))) else none
  | _, _ => none
def popM : MC := fun hp o xs => match lstAt hp o, xs with
  | some (l, ys), [] => (ys[ys.length - 1]?).map fun y => (y, hp.set l (.lst ys.dropLast))
  | some (l, ys), [.int i] => if small63 i then (seqIndex? i ys.length).bind fun k => (ys[k]?).map fun y => (y, hp.set l (.lst (ys.eraseIdx k))) else none
  | _, _ => none
where small63 (i : Int) : Bool := decide (-(2 ^ 63) ≤ i) && decide (i < 2 ^ 63)
def reverseM : MC := fun hp o xs => match lstAt hp o, xs with
  | some (l, ys), [] => some (.non, hp.set l (.lst ys.reverse))
  | _, _ => none
def clearM : MC := fun hp o xs => match lstAt hp o, xs with
  | some (l, _), [] => some (.non, hp.set l (.lst []))
  | _, _ => none
/-- the place of the first that is equal -/
def indexM : MC := fun hp o xs => match lstOfR hp o, xs with
  | some ys, [x] => if x.good 60 && D.goods (D.good 60) ys then (ys.findIdx? fun y => D.eqv y x).map fun (j : Nat) => (D.int (j : Int), hp) else none
  | _, _ => none
section
variable {X : Cx}
theorem mt_appendF : MtR X "list.append" (rMF X.K appendM) := by
  intro pins s σ H x vs v us Q I rx rv h
  obtain ⟨hp, m, o, xs, z, hp', ob, dr, dx, e, q⟩ := h
  unfold appendM at e
  split at e
  · rename_i l ys y hl
    split at e
    · rename_i hz
      cases e
      obtain ⟨a, ws, rfl, own, ha, ra⟩ := lstAt_at ob dr hl
      obtain ⟨w, rfl, dw⟩ := dx.one
      exact mt_append pins s σ H _ _ v us Q I rx rv ⟨a, ws, w, rfl, rfl, ha, by rw [← ra.length, lim_eq]; exact hz, q _ _ m (Ext.putL own ha) (ob.putL own ha (ra.append (.cons dw .nil))) .non⟩
    · cases e
  · cases e
theorem mt_extendF : MtR X "list.extend" (rMF X.K extendM) := by
  intro pins s σ H x vs v us Q I rx rv h
  obtain ⟨hp, m, o, xs, z, hp', ob, dr, dx, e, q⟩ := h
  unfold extendM at e
  split at e
  · rename_i l ys y hl
    obtain ⟨zs, e1, e2⟩ := Option.bind_eq_some_iff.mp e
    split at e2
    · rename_i hz
      cases e2
      obtain ⟨a, ws, rfl, own, ha, ra⟩ := lstAt_at ob dr hl
      obtain ⟨w, rfl, dw⟩ := dx.one
      obtain ⟨b, us', rfl, hb, rb⟩ := lstOf_at ob dw e1
      exact mt_extend pins s σ H _ _ v us Q I rx rv ⟨a, b, ws, us', rfl, rfl, ha, hb, by rw [← ra.length, ← rb.length, lim_eq]; exact hz, q _ _ m (Ext.putL own ha) (ob.putL own ha (ra.append rb)) .non⟩
    · cases e2
  · cases e
theorem mt_popF : MtR X "list.pop" (rMF X.K popM) := by
  intro pins s σ H x vs v us Q I rx rv h
  obtain ⟨hp, m, o, xs, z, hp', ob, dr, dx, e, q⟩ := h
  unfold popM at e
  split at e
  · rename_i l ys hl
    obtain ⟨y, e1, e2⟩ := Option.map_eq_some_iff.mp e
    cases e2
    obtain ⟨a, ws, rfl, own, ha, ra⟩ := lstAt_at ob dr hl
    cases dx
    obtain ⟨w, hw, dw⟩ := ra.get e1
    rw [ra.length] at hw
    exact mt_pop pins s σ H _ _ v us Q I rx rv ⟨a, ws, w, rfl, rfl, ha, hw, q _ _ m (Ext.putL own ha) (ob.putL own ha ra.dropLast) (dw.mono (Ext.putL own ha))⟩
  · rename_i l ys i hl
    split at e
    · rename_i hi
      obtain ⟨k, e1, e2⟩ := Option.bind_eq_some_iff.mp e
      obtain ⟨y, e3, e4⟩ := Option.map_eq_some_iff.mp e2
      cases e4
      obtain ⟨a, ws, rfl, own, ha, ra⟩ := lstAt_at ob dr hl
      obtain ⟨u, rfl, du⟩ := dx.one
      cases du
      obtain ⟨w, hw, dw⟩ := ra.get e3
      unfold popM.small63 at hi
      simp only [Bool.and_eq_true, decide_eq_true_eq] at hi
      exact mt_popAt pins s σ H _ _ v us Q I rx rv ⟨a, ws, i, k, w, rfl, rfl, ha, hi.1, hi.2, by rw [← ra.length]; exact e1, hw, q _ _ m (Ext.putL own ha) (ob.putL own ha (ra.eraseIdx k)) (dw.mono (Ext.putL own ha))⟩
    · cases e
  · cases e
theorem mt_reverseF : MtR X "list.reverse" (rMF X.K reverseM) := by
  intro pins s σ H x vs v us Q I rx rv h
  obtain ⟨hp, m, o, xs, z, hp', ob, dr, dx, e, q⟩ := h
  unfold reverseM at e
  split at e
  · rename_i l ys hl
    cases e
    obtain ⟨a, ws, rfl, own, ha, ra⟩ := lstAt_at ob dr hl
    cases dx
    exact mt_reverse pins s σ H _ _ v us Q I rx rv ⟨a, ws, rfl, rfl, ha, q _ _ m (Ext.putL own ha) (ob.putL own ha ra.reverse) .non⟩
  · cases e
theorem mt_clearF : MtR X "list.clear" (rMF X.K clearM) := by
  intro pins s σ H x vs v us Q I rx rv h
  obtain ⟨hp, m, o, xs, z, hp', ob, dr, dx, e, q⟩ := h
  unfold clearM at e
  split at e
  · rename_i l ys hl
    cases e
    obtain ⟨a, ws, rfl, own, ha, ra⟩ := lstAt_at ob dr hl
    cases dx
    exact mt_clear pins s σ H _ _ v us Q I rx rv ⟨a, ws, rfl, rfl, ha, q _ _ m (Ext.putL own ha) (ob.putL own ha .nil) .non⟩
  · cases e
theorem pds_get {xs : List D} {j : Nat} : (D.pds xs)[j]? = (xs[j]?).map D.pd := by
  induction xs generalizing j with
  | nil => simp [D.pds]
  | cons x r ih => cases j with
    | zero => simp [D.pds]
    | succ j => simp only [D.pds, List.getElem?_cons_succ]; exact ih
theorem goods_get {g : D → Bool} {xs : List D} {j : Nat} {x : D} (h : D.goods g xs = true) (e : xs[j]? = some x) : g x = true := by
  induction xs generalizing j with
  | nil => simp at e
  | cons y r ih =>
    simp only [D.goods, Bool.and_eq_true] at h
    cases j with
    | zero => simp at e; rw [← e]; exact h.1
    | succ j => exact ih h.2 (by simpa using e)
theorem mt_indexF {n : Nat} (hr : Room n X.A) : MtR X "list.index" (rMF X.K indexM) := by
  intro pins s σ H x vs v us Q I rx rv h
  obtain ⟨hp, m, o, xs, z, hp', ob, dr, dx, e, q⟩ := h
  have hu : X.A.units + 65 < cLine := hr.un |> fun h => by have := h; omega
  unfold indexM at e
  split at e
  · rename_i ys y hl
    split at e
    · rename_i hg
      rw [Bool.and_eq_true] at hg
      obtain ⟨j, e1, e2⟩ := Option.map_eq_some_iff.mp e
      cases e2
      obtain ⟨a, ws, rfl, ha, ra⟩ := lstOfR_at ob dr hl
      obtain ⟨w, rfl, dw⟩ := dx.one
      obtain ⟨l1, l2⟩ := D.good_lay _ _ hg.1
      obtain ⟨l3, l4⟩ := D.goods_lay _ _ hg.2
      obtain ⟨h1, h2, h3⟩ := List.findIdx?_eq_some_iff_getElem.mp e1
      have hj : ys[j]? = some ys[j] := List.getElem?_eq_getElem h1
      have s1 : SeqAt.shaped y.pd = true := Bool.and_eq_true_iff.mpr ⟨l1, decide_eq_true (by omega)⟩
      have s2 : SeqAt.shaped (.list (D.pds ys)) = true := Bool.and_eq_true_iff.mpr ⟨by simp only [PyData.canLay0]; exact l3, decide_eq_true (by simp only [PyData.depth]; omega)⟩
      refine mt_indexD hu pins s σ H _ _ v us Q I rx rv ⟨a, w, y.pd, D.pds ys, j, ys[j].pd, rfl, rfl, .lst ha (D.dps _ _ hg.2 ra), D.dp _ _ hg.1 dw, s2, s1, by rw [pds_get, hj]; rfl, ?_, ?_, q _ _ m .refl ob (.int _)⟩
      · rw [D.eqv_pd _ _ _ _ (goods_get hg.2 hj) hg.1]
        exact h2
      · intro k z' hk hz
        rw [pds_get] at hz
        obtain ⟨u, hu1, hu2⟩ := Option.map_eq_some_iff.mp hz
        subst hu2
        rw [D.eqv_pd _ _ _ _ (goods_get hg.2 hu1) hg.1]
        obtain ⟨hl, hu3⟩ := List.getElem?_eq_some_iff.mp hu1
        subst hu3
        have := h3 k hk
        simpa using this
    · cases e
  · cases e
end

/-! ### stores at places; dicts -/
def putD (kvs : List (Key × D)) (k : Key) (v : D) : List (Key × D) :=
  if (kvs.any fun kv => decide (kv.1 = k)) = true then kvs.map (fun kv => if kv.1 = k then (kv.1, v) else kv) else kvs ++ [(k, v)]
section
variable {K : PySem.W.Frag} {m : Ma} {H : Hp}
theorem KVs.append : ∀ {xs ys : List (Key × D)} {us ws : List (Key × V)}, KVs K m H xs us → KVs K m H ys ws → KVs K m H (xs ++ ys) (us ++ ws)
  | _, _, _, _, .nil, s => s
  | _, _, _, _, .cons r t, s => .cons r (KVs.append t s)
theorem KVs.any {k : Key} : ∀ {kvs : List (Key × D)} {ws : List (Key × V)}, KVs K m H kvs ws → (kvs.any fun kv => decide (kv.1 = k)) = ws.any fun kv => decide (kv.1 = k)
  | _, _, .nil => rfl
  | _, _, .cons r t => by rw [List.any_cons, List.any_cons, KVs.any t]
theorem KVs.repl {k : Key} {d : D} {v : V} (r : DV K m H d v) : ∀ {kvs : List (Key × D)} {ws : List (Key × V)}, KVs K m H kvs ws → KVs K m H (kvs.map fun kv => if kv.1 = k then (kv.1, d) else kv) (ws.map fun kv => if kv.1 = k then (kv.1, v) else kv)
  | _, _, .nil => .nil
  | (k', _) :: _, _, .cons q t => by
    rw [List.map_cons, List.map_cons]
    by_cases e : k' = k
    · rw [if_pos e, if_pos e]; exact .cons r (KVs.repl r t)
    · rw [if_neg e, if_neg e]; exact .cons q (KVs.repl r t)
theorem KVs.put {k : Key} {d : D} {v : V} {kvs : List (Key × D)} {ws : List (Key × V)} (h : KVs K m H kvs ws) (r : DV K m H d v) : KVs K m H (putD kvs k d) (putK ws k v) := by
  unfold putD putK
  rw [h.any]
  by_cases a : (ws.any fun kv => decide (kv.1 = k)) = true
  · rw [if_pos a, if_pos a]; exact h.repl r
  · rw [if_neg a, if_neg a]; exact h.append (.cons r .nil)
theorem Ext.putK {l : Nat} {a : Addr} {ws us : List (Key × V)} (hl : m.own[l]? = some (some a)) (h : H a = some (.dK ws)) : Ext K H m (upd H a (.dK us)) m := Ext.put hl h (fun _ z => by cases z) fun _ _ z => by cases z
end
def setD (hp : AH) (o i v : D) : Option AH := match o with
  | .ref l => match hp[l]? with
    | some (.lst xs) => (match i with
      | .int k => (ixN xs.length k).map fun j => hp.set l (.lst (xs.set j v))
      | _ => none)
    | some (.dct kvs) => (keyOf i).bind fun k => if kvs.length < lim then some (hp.set l (.dct (putD kvs k v))) else none
    | _ => none
  | _ => none
def rSetF (K : PySem.W.Frag) : V → V → V → Hp → (Hp → Prop) → Prop := fun o i v H Q => ∃ hp m d e x hp', Obs K H m hp ∧ DV K m H d o ∧ DV K m H e i ∧ DV K m H x v ∧ setD hp d e x = some hp' ∧ ∀ H', Ext K H m H' m → Obs K H' m hp' → Q H'
/-- o[i] = v -/
def tgSub (o i : DE D) : TgD := fun d env hp => match o env hp with
  | some (.val x, h1) => (match i env h1 with
    | some (.val y, h2) => (setD h2 x y d).map fun h3 => (env, h3)
    | _ => none)
  | _ => none
section
variable {X : Cx} {W : WX}
theorem set_F {n : Nat} (hr : Room n X.A) : PSet X (rSetF X.K) := by
  intro pins s σ H o i v ov iv u Q I ro ri rv h
  obtain ⟨hp, m, d, e, x, hp', ob, dr, di, dv, q0, q⟩ := h
  unfold setD at q0
  split at q0
  · rename_i l
    split at q0
    · rename_i xs hx
      split at q0
      · rename_i k
        obtain ⟨j, e1, e2⟩ := Option.map_eq_some_iff.mp q0
        subst e2
        obtain ⟨a, ws, rfl, own, ha, ra⟩ := lstAt_at ob dr (show lstAt hp (.ref l) = some (l, xs) by simp only [lstAt, hx])
        cases di
        exact set_list pins s σ H _ _ v ov iv u Q I ro ri rv ⟨a, ws, k, j, rfl, rfl, ha, by rw [← ra.length]; exact e1, q _ (Ext.putL own ha) (ob.putL own ha (ra.set dv j))⟩
      · cases q0
    · rename_i kvs hx
      obtain ⟨k, e1, e2⟩ := Option.bind_eq_some_iff.mp q0
      split at e2
      · rename_i hl
        cases e2
        obtain ⟨a, h', ws, z, rk⟩ := ob.get hx (by intro z; cases z)
        have own : m.own[l]? = some (some a) ∧ o = .ref a := by
          cases dr with
          | ref h2 => rw [h2] at h'; cases h'; exact ⟨h2, rfl⟩
          | dead h2 => rw [h2] at h'; cases h'
        obtain ⟨own, rfl⟩ := own
        have ek := keyOf_at di e1
        subst ek
        cases (show ov = Value.ref a from ro)
        have hu : X.A.units + 1 < cLine := by have := hr.un; omega
        refine d_setItem hu I (DPut.k (kvs := ws) (k := k) (v := v) z (by rw [← rk.length, lim_eq]; exact hl)) ri rv fun s' I' => ⟨_, I', q _ (Ext.putK own z) (ob.put own (Ext.putK own z) ⟨_, upd_same, (rk.put dv).mono (Ext.putK own z)⟩)⟩
      · cases e2
    · cases q0
  · cases q0
theorem mg_sub {n : Nat} {o i : Expr} {dr di : DE D} {pos : Pos} (hr : Room n X.A) (ho : ME X W o dr) (hi : ME X W i di) (ha : ∀ v, assign (.Subscript o i pos) X.env v = (do
      let ov ← holding [v] (eval o X.env)
      let iv ← holding [v, ov] (eval i X.env)
      standAt pos
      holding [v, ov, iv] (setItem ov iv v)
      release [v, ov, iv] []) := by intro _; rfl) : MG X [] (.Subscript o i pos) (tgSub dr di) := by
  refine (pg_sub ho hi (set_F hr) ha).weak fun v σ H Q h => ?_
  obtain ⟨env, hp, m, d, env', hp', s, dv, e, q⟩ := h
  unfold tgSub at e
  split at e
  · rename_i x h1 e1
    split at e
    · rename_i y h2 e2
      obtain ⟨h3, e3, e4⟩ := Option.map_eq_some_iff.mp e
      cases e4
      refine ⟨env, hp, m, s, .val x, h1, e1, fun v1 H1 m1 E1 ob1 rv1 => ?_⟩
      have s1 := s.step E1 ob1
      refine ⟨env, h1, m1, s1, .val y, h2, e2, fun v2 H2 m2 E2 ob2 rv2 => ?_⟩
      have s2 := s1.step E2 ob2
      refine ⟨h2, m2, x, y, d, _, ob2, rv1.mono E2, rv2, (dv.mono E1).mono E2, e3, fun H3 E3 ob3 => ?_⟩
      exact q σ H3 m2 ((E1.trans E2).trans E3) (s2.step E3 ob3) .refl
    · cases e
  · cases e
def dDict0 : DE D := fun _ hp => some (.val (.ref hp.length), hp ++ [.dct []])
theorem me_dict0 {pos : Pos} : ME X W (.Dict [] [] pos) dDict0 := by
  refine pe_dnewK.weak fun σ H Q h => ?_
  obtain ⟨env, hp, m, s, r, hp', e, p⟩ := h
  cases e
  intro a ha
  refine p _ _ (m.push a) (.alloc ha) (s.ob.alloc ha ⟨[], upd_same, .nil⟩) (.ref ?_)
  unfold Ma.push
  rw [List.getElem?_append_right (by rw [s.ob.len]; exact Nat.le_refl _), s.ob.len, Nat.sub_self]
  rfl
/-- xs += ys of lists -/
def iextD (i : Nat) (e : DE D) : DS := fun env hp => match env[i]? with
  | some (some x) => bS (e env hp) env fun y h1 => match lstAt h1 x, lstOf h1 y with
    | some (l, xs), some ys => if xs.length + ys.length ≤ lim then some (.next, env, h1.set l (.lst (xs ++ ys))) else none
    | _, _ => none
  | _ => none
end
end MP
end

section
set_option maxHeartbeats 2000000
/-! MpFun: a list put to rest; defs. -/
namespace MP
open PySem PySem.Spec L2
open PyProof.Rows (envOfC)

/-! ### a list of ours that is not changed any more -/
def Ma.drop1 (m : Ma) (l : Nat) : Ma := ⟨m.own.set l none, m.out⟩
section
variable {K : PySem.W.Frag} {H : Hp} {m : Ma} {hp : AH} {l : Nat} {a : Addr}
theorem drop1_some {k : Nat} {b : Addr} (h : (m.drop1 l).own[k]? = some (some b)) : m.own[k]? = some (some b) ∧ k ≠ l := by
  unfold Ma.drop1 at h
  by_cases e : k = l
  · subst e
    by_cases hl : k < m.own.length
    · rw [List.getElem?_set_self hl] at h; cases h
    · rw [List.getElem?_eq_none (by rw [List.length_set]; omega)] at h; cases h
  · rw [List.getElem?_set_ne (Ne.symm e)] at h
    exact ⟨h, e⟩
theorem Ext.drop1 : Ext K H m H (m.drop1 l) where
  mm := fun k x h => by
    by_cases e : k = l
    · subst e
      exact .inr (by unfold Ma.drop1; rw [List.getElem?_set_self (List.getElem?_eq_some_iff.mp h).1])
    · exact .inl (by unfold Ma.drop1; rw [List.getElem?_set_ne (Ne.symm e)]; exact h)
  ou := fun _ h => .inl h
  ol := fun _ h => h
  fr := fun _ _ h _ => h
  nw := fun k b h => .inl (drop1_some h).1
  th := fun _ o h => ⟨o, h⟩
  sq := fun _ _ h => h
theorem Obs.drop1 (ob : Obs K H m hp) : Obs K H (m.drop1 l) (hp.set l .dead) where
  len := by unfold Ma.drop1; rw [List.length_set, List.length_set]; exact ob.len
  ot := ob.ot
  inj := fun i j b h h' => ob.inj i j b (drop1_some h).1 (drop1_some h').1
  obj := fun k b h => by
    obtain ⟨h1, h2⟩ := drop1_some h
    obtain ⟨o, ho, z⟩ := ob.obj k b h1
    exact ⟨o, by rw [List.getElem?_set_ne (Ne.symm h2)]; exact ho, z.mono Ext.drop1 rfl⟩
  adr := fun k o h hn => by
    by_cases e : k = l
    · subst e
      by_cases hl : k < hp.length
      · rw [List.getElem?_set_self hl] at h
        cases h
        exact (hn rfl).elim
      · rw [List.getElem?_eq_none (by rw [List.length_set]; omega)] at h; cases h
    · rw [List.getElem?_set_ne (Ne.symm e)] at h
      obtain ⟨b, q⟩ := ob.adr k o h hn
      exact ⟨b, by unfold Ma.drop1; rw [List.getElem?_set_ne (Ne.symm e)]; exact q⟩
  dj := fun k b h => ob.dj k b (drop1_some h).1
end
/-- the value of e, a list of ours, from now on as a value -/
def dRest (e : DE D) : DE D := fun env hp => bE (e env hp) fun x h1 => match lstAt h1 x with
  | some (l, xs) => some (.val (.vls xs), h1.set l .dead)
  | none => some (.val x, h1)
theorem rest_read {X : Cx} {W : WX} {d : DE D} {σ : St} {H : Hp} {Q : VK} (h : toR X.K X.mg W (RD X.K) (dRest d) σ H Q) : toR X.K X.mg W (RD X.K) d σ H Q := by
  obtain ⟨env, hp, m, s, r, hp', e, p⟩ := h
  refine toR_step s e p fun x hp1 e1 v H1 m1 E1 s1 rv p1 => ?_
  split at e1
  · rename_i l xs hl
    cases e1
    obtain ⟨a, vs, rfl, own, ha, ra⟩ := lstAt_at s1.ob rv hl
    refine p1 _ H1 (m1.drop1 l) .drop1 s1.ob.drop1 (.vls ⟨ha, fun k q => ?_, fun q => s1.ob.dj l a own q⟩ (ra.mono .drop1))
    obtain ⟨h1, h2⟩ := drop1_some q
    exact h2 (s1.ob.inj _ _ _ h1 own)
  · cases e1
    exact p1 _ H1 m1 .refl s1.ob rv
theorem me_rest {X : Cx} {W : WX} {e : Expr} {d : DE D} (h : ME X W e d) : ME X W e (dRest d) := h.weak fun _ _ _ => rest_read

/-! ### what stands below a number -/
mutual
def D.lower (n : Nat) : D → Bool
  | .ref l => decide (l < n)
  | .tup xs => D.lowers n xs
  | .vls xs => D.lowers n xs
  | .non => true | .bl _ => true | .int _ => true | .str _ => true
  | .exn _ => true | .exf _ _ x => D.lower n x | .rls xs => D.lowers n xs
def D.lowers (n : Nat) : List D → Bool
  | [] => true
  | x :: xs => D.lower n x && D.lowers n xs
end
def Ob.lower (n : Nat) : Ob → Bool
  | .lst xs => D.lowers n xs
  | .rol xs => D.lowers n xs
  | .dct kvs => D.lowers n (kvs.map (·.2))
  | .dlk kvs => D.lowers n (kvs.map (·.2))
  | .dead => true
/-- the objects from n on let go, where nothing below needs them -/
def Out.low (n : Nat) : Out D → Bool
  | .val d => d.lower n
  | .exc _ => true
def trim (n : Nat) (r : Out D) (hp : AH) : AH := if (r.low n && (hp.take n).all (Ob.lower n)) = true then hp.take n else hp
def Ma.take (m : Ma) (n : Nat) : Ma := ⟨m.own.take n, m.out⟩
section
variable {K : PySem.W.Frag} {H : Hp} {m : Ma} {hp : AH} {n : Nat}
theorem free_take {b : Addr} (h : Free m b) : Free (m.take n) b := ⟨fun l q => by
  unfold Ma.take at q
  rw [List.getElem?_take] at q
  split at q
  · exact h.1 l q
  · exact (by cases q), h.2⟩
mutual
theorem DV.take : ∀ {d : D} {v : V}, d.lower n = true → DV K m H d v → DV K (m.take n) H d v
  | _, _, _, .non => .non
  | _, _, _, .bl b => .bl b
  | _, _, _, .int i => .int i
  | _, _, _, .str s => .str s
  | _, _, h, .tup q t => .tup q (DVs.take' h t)
  | _, _, h, .vls q t => .vls ⟨q.1, free_take q.2⟩ (DVs.take' h t)
  | _, _, h, .ref q => .ref (by unfold Ma.take; rw [List.getElem?_take, if_pos (by simpa [D.lower] using h)]; exact q)
  | _, _, h, .dead q => .dead (by unfold Ma.take; rw [List.getElem?_take, if_pos (by simpa [D.lower] using h)]; exact q)
  | _, _, _, .exn g k f => .exn g k (free_take f)
  | _, _, h, .exf g k k' f f' t => .exf g k k' (free_take f) (free_take f') (DV.take (by simpa [D.lower] using h) t)
  | _, _, h, .rls q t => .rls (q.elim (fun ⟨o, h, f⟩ => .inl ⟨o, h, free_take f⟩) .inr) (DVs.take' h t)
theorem DVs.take' : ∀ {d : List D} {v : List V}, D.lowers n d = true → DVs K m H d v → DVs K (m.take n) H d v
  | _, _, _, .nil => .nil
  | _, _, h, .cons q t => by
    simp only [D.lowers, Bool.and_eq_true] at h
    exact .cons (DV.take h.1 q) (DVs.take' h.2 t)
end
theorem KVs.take : ∀ {d : List (Key × D)} {v : List (Key × V)}, D.lowers n (d.map (·.2)) = true → KVs K m H d v → KVs K (m.take n) H d v
  | _, _, _, .nil => .nil
  | _, _, h, .cons q t => by
    simp only [List.map_cons, D.lowers, Bool.and_eq_true] at h
    exact .cons (q.take h.1) (KVs.take h.2 t)
theorem OV.take {a : Addr} {b : Ob} (hb : b.lower n = true) (h : OV K m H a b) : OV K (m.take n) H a b := by
  cases b with
  | lst xs => obtain ⟨vs, z, r⟩ := h; exact ⟨vs, z, DVs.take' hb r⟩
  | rol xs => obtain ⟨o, vs, z, r⟩ := h; exact ⟨o, vs, z, DVs.take' hb r⟩
  | dct xs => obtain ⟨vs, z, r⟩ := h; exact ⟨vs, z, KVs.take hb r⟩
  | dlk xs => obtain ⟨o, vs, z, r⟩ := h; exact ⟨o, vs, z, KVs.take hb r⟩
  | dead => exact h
theorem Obs.take (ob : Obs K H m hp) (h : (hp.take n).all (Ob.lower n) = true) : Obs K H (m.take n) (hp.take n) where
  len := by unfold Ma.take; rw [List.length_take, List.length_take, ob.len]
  ot := ob.ot
  inj := fun i j b h h' => by
    unfold Ma.take at h h'
    rw [List.getElem?_take] at h h'
    split at h
    · split at h'
      · exact ob.inj i j b h h'
      · cases h'
    · cases h
  obj := fun k b h1 => by
    unfold Ma.take at h1
    rw [List.getElem?_take] at h1
    split at h1
    · rename_i hk
      obtain ⟨o, ho, z⟩ := ob.obj k b h1
      have ht : (hp.take n)[k]? = some o := by rw [List.getElem?_take, if_pos hk]; exact ho
      exact ⟨o, ht, z.take (List.all_eq_true.mp h o (List.mem_of_getElem? ht))⟩
    · cases h1
  adr := fun k o h1 hn => by
    rw [List.getElem?_take] at h1
    split at h1
    · rename_i hk
      obtain ⟨b, q⟩ := ob.adr k o h1 hn
      exact ⟨b, by unfold Ma.take; rw [List.getElem?_take, if_pos hk]; exact q⟩
    · cases h1
  dj := fun k b h1 => by
    unfold Ma.take at h1
    rw [List.getElem?_take] at h1
    split at h1
    · exact ob.dj k b h1
    · cases h1
theorem Ext.take {H0 : Hp} {m0 : Ma} (e : Ext K H0 m0 H m) (hl : m0.own.length ≤ n) : Ext K H0 m0 H (m.take n) where
  mm := fun l x h => by
    have hk : l < n := by have := (List.getElem?_eq_some_iff.mp h).1; omega
    unfold Ma.take
    rw [List.getElem?_take, if_pos hk]
    exact e.mm l x h
  ou := e.ou
  ol := e.ol
  fr := e.fr
  nw := fun l a h => by
    unfold Ma.take at h
    rw [List.getElem?_take] at h
    split at h
    · exact e.nw l a h
    · cases h
  th := e.th
  sq := e.sq
end

theorem trim_keep {K : PySem.W.Frag} {H H' : Hp} {m m' : Ma} {h1 : AH} {n : Nat} {r : Out D} (e : Ext K H m H' m') (hl : m.own.length ≤ n) (ob : Obs K H' m' h1) :
    ∃ m2, Ext K H m H' m2 ∧ Obs K H' m2 (trim n r h1) ∧ ∀ d v, r = .val d → DV K m' H' d v → DV K m2 H' d v := by
  unfold trim
  split
  · rename_i ht
    rw [Bool.and_eq_true] at ht
    refine ⟨m'.take n, e.take hl, ob.take ht.2, fun d v hr q => ?_⟩
    subst hr
    exact q.take ht.1
  · exact ⟨m', e, ob, fun _ _ _ q => q⟩
/-! ### defs -/
def startE (n : Nat) (xs : List D) : En := xs.map some ++ List.replicate (n - xs.length) none
theorem EnV.nones {K : PySem.W.Frag} {m : Ma} {H : Hp} : ∀ k : Nat, EnV K m H (List.replicate k none) (List.replicate k none)
  | 0 => .nil
  | k + 1 => by rw [List.replicate_succ, List.replicate_succ]; exact .no (EnV.nones k)
theorem EnV.start {K : PySem.W.Frag} {m : Ma} {H : Hp} {N : List Str} : ∀ {xs : List D} {vs : List V}, DVs K m H xs vs → EnV K m H (startE N.length xs) (L2.start N vs) := fun {xs vs} h => by
  have key : ∀ {xs : List D} {vs : List V} (k : Nat), DVs K m H xs vs → EnV K m H (xs.map some ++ List.replicate k none) (vs.map some ++ List.replicate k none) := fun {xs vs} k h => by
    induction xs generalizing vs with
    | nil => cases h; exact EnV.nones k
    | cons x r ih =>
      cases h with
      | cons q t => exact .yes q (ih t)
  unfold startE L2.start
  rw [← h.length]
  exact key _ h
def flOut : Fl → Option (Out D)
  | .next => some (.val .non)
  | .ret d => some (.val d)
  | .exc e => some (.exc e)
  | _ => none
/-- alone, on its own objects: for arguments and a value without numbers -/
def runP (ns : Nat) (b : DS) (xs : List D) : Option (Out D) := match b (startE ns xs) [] with
  | some (f, _, _) => match flOut f with
    | some (.val d) => if d.pure then some (.val d) else none
    | some (.exc e) => some (.exc e)
    | none => none
  | none => none
def runG (ns : Nat) (b : DS) (xs : List D) (hp : AH) : Mo D := match b (startE ns xs) hp with
  | some (f, _, h1) => match flOut f with
    | some r => some (r, trim hp.length r h1)
    | none => none
  | none => none
def runFn (ns : Nat) (b : DS) : Sem1 := fun xs hp => match (if D.pures xs then runP ns b xs else none) with
  | some r => some (r, hp)
  | none => runG ns b xs hp
section
variable {K : PySem.W.Frag} {H H' : Hp} {m m' : Ma}
mutual
theorem DV.pureTo (hf : ∀ b, Free m b → Free m' b) : ∀ {d : D} {v : V}, d.pure = true → DV K m H d v → DV K m' H d v
  | _, _, _, .non => .non
  | _, _, _, .bl b => .bl b
  | _, _, _, .int i => .int i
  | _, _, _, .str s => .str s
  | _, _, h, .tup q t => .tup q (DVs.pureTo hf h t)
  | _, _, h, .vls q t => .vls ⟨q.1, hf _ q.2⟩ (DVs.pureTo hf h t)
  | _, _, h, .ref q => by cases h
  | _, _, h, .dead q => by cases h
  | _, _, _, .exn g k f => .exn g k (hf _ f)
  | _, _, h, .exf g k k' f f' t => .exf g k k' (hf _ f) (hf _ f') (DV.pureTo hf (by simpa [D.pure] using h) t)
  | _, _, h, .rls q t => .rls (q.elim (fun ⟨o, h, f⟩ => .inl ⟨o, h, hf _ f⟩) .inr) (DVs.pureTo hf h t)
theorem DVs.pureTo (hf : ∀ b, Free m b → Free m' b) : ∀ {d : List D} {v : List V}, D.pures d = true → DVs K m H d v → DVs K m' H d v
  | _, _, _, .nil => .nil
  | _, _, h, .cons q t => by
    simp only [D.pures, Bool.and_eq_true] at h
    exact .cons (DV.pureTo hf h.1 q) (DVs.pureTo hf h.2 t)
end
end
/-- ours, all hidden -/
def Ma.alone (m : Ma) : Ma := ⟨[], fun a => (∃ l : Nat, m.own[l]? = some (some a)) ∨ m.out a⟩
theorem free_alone {m : Ma} {b : Addr} (h : Free m b) : Free m.alone b := ⟨fun l q => by simp [Ma.alone] at q, fun z => z.elim (fun ⟨l, q⟩ => h.1 l q) h.2⟩
theorem notOwn_alone {m : Ma} {b : Addr} : NotOwn m.alone b := fun l q => by simp [Ma.alone] at q
theorem Obs.alone {K : PySem.W.Frag} {H : Hp} {m : Ma} {hp : AH} (ob : Obs K H m hp) : Obs K H m.alone [] where
  len := rfl
  ot := fun a h => h.elim (fun ⟨l, q⟩ => by
    obtain ⟨b, _, z⟩ := ob.obj l a q
    exact z.there) (ob.ot a)
  inj := fun l l' a h => by simp [Ma.alone] at h
  obj := fun l a h => by simp [Ma.alone] at h
  adr := fun l o h => by simp at h
  dj := fun l a h => by simp [Ma.alone] at h
theorem Ext.unalone {K : PySem.W.Frag} {H H' : Hp} {m m1 : Ma} (e : Ext K H m.alone H' m1) : Ext K H m H' m where
  mm := fun _ _ h => .inl h
  ou := fun _ h => .inl h
  ol := fun _ h => h
  fr := fun a o h _ => e.fr a o h notOwn_alone
  nw := fun _ _ h => .inl h
  th := e.th
  sq := e.sq
theorem Obs.unalone {K : PySem.W.Frag} {H H' : Hp} {m m1 : Ma} {hp : AH} (ob : Obs K H m hp) (e : Ext K H m.alone H' m1) : Obs K H' m hp :=
  ⟨ob.len, fun a h => (ob.ot a h).elim fun o z => e.th a o z, ob.inj, fun l a h => by
    obtain ⟨b, hb, z⟩ := ob.obj l a h
    obtain ⟨u, hu⟩ := z.there
    exact ⟨b, hb, z.mono e.unalone (by rw [e.fr a u hu notOwn_alone, hu])⟩, ob.adr, ob.dj⟩
theorem free_unalone {K : PySem.W.Frag} {H H' : Hp} {m m1 : Ma} (e : Ext K H m.alone H' m1) {b : Addr} (h : Free m1 b) : Free m b :=
  ⟨fun l q => h.2 (e.ol b (.inl ⟨l, q⟩)), fun q => h.2 (e.ol b (.inr q))⟩
section
variable {K : PySem.W.Frag} {mg : Str → Option Value} {N : List Str} {b : DS} {E : XK}
/-- a def's body run, from its promise -/
theorem run_body {n : Nat} {vs : List V} {H : Hp} {Q : VK} (h : spF K mg n (runFn N.length b) vs H Q E) :
    toS K mg (fun c d _ H => E c d H) b { nx := fun _ H' => Q .non H', rt := Q } (start N vs) H := by
  obtain ⟨xs, hp, m, r, hp', hl, dv, ob, e, p⟩ := h
  unfold runFn at e
  split at e
  · rename_i r0 e0
    cases e
    split at e0
    · rename_i hpu
      unfold runP at e0
      split at e0
      · rename_i f env1 h1 e1
        refine ⟨startE N.length xs, [], m.alone, ⟨EnV.start (DVs.pureTo (fun _ => free_alone) hpu dv), ob.alone⟩, f, env1, h1, e1, ?_⟩
        cases f with
        | next =>
          simp only [flOut] at e0
          split at e0
          · cases e0
            exact fun σ' H' m' E' s' => p _ H' m E'.unalone (ob.unalone E') .non
          · cases e0
        | ret d =>
          simp only [flOut] at e0
          split at e0
          · rename_i hd
            cases e0
            exact fun v H' m' E' o' d' => p v H' m E'.unalone (ob.unalone E') (DV.pureTo (fun _ => free_unalone E') hd d')
          · cases e0
        | exc x =>
          simp only [flOut] at e0
          cases e0
          exact fun c dd σ' H' m' E' s' xv => p c dd H' m E'.unalone (ob.unalone E') xv
        | brk => cases e0
        | cont => cases e0
      · cases e0
    · cases e0
  · unfold runG at e
    split at e
    · rename_i f env1 h1 e1
      refine ⟨startE N.length xs, hp, m, ⟨EnV.start dv, ob⟩, f, env1, h1, e1, ?_⟩
      have fin : ∀ r', flOut f = some r' → r = r' ∧ hp' = trim hp.length r' h1 := fun r' hr => by
        rw [hr] at e
        cases e
        exact ⟨rfl, rfl⟩
      have hlen : m.own.length ≤ hp.length := by rw [ob.len]; exact Nat.le_refl _
      cases f with
      | next =>
        obtain ⟨rfl, rfl⟩ := fin _ rfl
        intro σ' H' m' E' s'
        obtain ⟨m2, t1, t2, t3⟩ := trim_keep (r := .val .non) E' hlen s'.ob
        exact p _ H' m2 t1 t2 .non
      | ret d =>
        obtain ⟨rfl, rfl⟩ := fin _ rfl
        intro v H' m' E' o' d'
        obtain ⟨m2, t1, t2, t3⟩ := trim_keep (r := .val d) E' hlen o'
        exact p _ H' m2 t1 t2 (t3 _ _ rfl d')
      | exc x =>
        obtain ⟨rfl, rfl⟩ := fin _ rfl
        intro c dd σ' H' m' E' s' xv
        obtain ⟨m2, t1, t2, t3⟩ := trim_keep (r := .exc x) E' hlen s'.ob
        exact p c dd H' m2 t1 t2 xv
      | brk => cases e
      | cont => cases e
    · cases e
/-- a def: its body's run keeps its promise -/
theorem fn_ok {P : Program} {w : World} {base : Heap} {x qual : Str} {st : Stmt} {f : Addr} {fd : FuncData} {ps : List Str} {k n : Nat} (F : Fun K x qual st f fd) (S : FnScope N ps (defScope st)) (hn : n = ps.length)
    (body : ∀ (cdv : Value) (A : Around) (outer : List Env) (s : Shared) (H : Hp) (E : XK), Room k (A.deeper (envOfC qual (defScope st) s.heap.objs.size f cdv)) →
      MSs (cxOf (L2.CX P w) P w K mg base N qual (defScope st) f cdv A outer s H E) (fun c d _ H => E c d H) (defBody st) b) : FnOk P w K mg base (L2.CX P w) (k + 1) f fd ps (spF K mg n (runFn N.length b)) := by
  refine F.okX S (fun vs H Q E h => ?_) (fun cdv A outer s H vs Q E hr h => ⟨_, body cdv A outer s H E hr, run_body h⟩)
  obtain ⟨xs, hp, m, r, hp', hl, dv, _⟩ := h
  rw [← dv.length, hl, hn]
end
end MP
end

section
set_option maxHeartbeats 4000000
/-! MpErr: errors as values: own classes over ValueError, plain ones and such whose __init__ hands a text on by super() and keeps one field. -/
namespace MP
open PySem PySem.Spec PySem.W L2
open PySem.HandSPX (refsVE excO)
open PyProof.Rows (envOfC)

/-! ### the text of such an __init__ -/
structure SupPos where
  a1 : Pos
  a2 : Pos
  p0 : Pos
  p1 : Pos
  p2 : Pos
  p3 : Pos
  p4 : Pos
  p5 : Pos
  q1 : Pos
  q2 : Pos
  q3 : Pos
  q4 : Pos
def supArgs (fld : Str) (z : SupPos) : Arguments := ⟨[], [⟨"self", none, z.a1⟩, ⟨fld, none, z.a2⟩], none, [], [], none, []⟩
def supBody (fld txt : Str) (z : SupPos) : List Stmt := [.Expr (.Call (.Attribute (.Call (.Name "super" z.p0) [] [] z.p1) "__init__" z.p2) [.Constant (.str txt) 0 z.p3] [] z.p4) z.p5,
  .Assign [.Attribute (.Name "self" z.q1) fld z.q2] (.Name fld z.q3) z.q4]
def supScope (fld : Str) : Scope := ⟨.function, [("self", .local), (fld, .local), ("__class__", .free), ("super", .globalImplicit)], false, false, []⟩
def supCall (txt : Str) (z : SupPos) : Expr := .Call (.Attribute (.Call (.Name "super" z.p0) [] [] z.p1) "__init__" z.p2) [.Constant (.str txt) 0 z.p3] [] z.p4
/-- what the rows of it say together -/
structure SupLine (fld txt : Str) (z : SupPos) : Prop where
  call : ∀ env : Env, ∃ pl : Sem Bool, eval (supCall txt z) env = (do
    let ov ← attributeBase (.Call (.Name "super" z.p0) [] [] z.p1) "__init__" env (eval (.Call (.Name "super" z.p0) [] [] z.p1) env)
    standAt z.p2.atName
    let (f, first) ← holding [ov] (getMethod ov "__init__" pl)
    callWith z.p4 f first (backTo z.p4 (starEach [.Constant (.str txt) 0 z.p3] env)) [])
  sw1 : ∀ env : Env, swapsWith (supCall txt z) none z.p5.line env = pure false
  sw2 : ∀ env : Env, swapsWith (.Name fld z.q3) (some (.Attribute (.Name "self" z.q1) fld z.q2)) z.q4.line env = pure false
/-- what the written part says of the class at C, of its __init__ at fI, of the cell cc -/
structure SupT (file : Str) (K : Frag) (C fI cc : Addr) (qual fld : Str) : Prop where
  cls : excInitIn K C He.veBase "ValueError.__new__" = true
  cd : ∃ cd, clsIn K C = some cd ∧ refsVE cd.mro = true ∧ cd.hasDict = true
  sa : findIn K (.ref C) "__setattr__" = some (some (.builtin "object.__setattr__"))
  noN : findIn K (.ref C) fld = some none
  iC : findIn K (.ref C) "__init__" = some (some (.ref fI))
  tC : typeIn K (.ref fI) = some (.type "function")
  any_ : nsIn K cStatics "thirdparty.any" = some none
  sup : ks_superIn K C C "__init__" = some (some (.builtin "ValueError.__init__"))
  subB : subIn K (.ref C) (.type "ValueError") = some true
  mroC : mroIn K C (.ref C) = some true
  cell : ∃ cl cld csl, K.lookup cc = some ⟨cl, cld, .cell (some (.ref C)), csl⟩
  fn : ∃ oc od kV doc pm an cda ct osl txt z, K.lookup fI = some ⟨oc, od, .func (ksFn "__init__" qual (supArgs fld z) (supBody fld txt z) (supScope fld) .none kV doc pm an (.ref cda) ct cc), osl⟩ ∧ codeIn K (.ref cda) qual = true ∧
    ∃ ccl cdd vs ccs file' tf, K.lookup cda = some ⟨ccl, cdd, .fields vs, ccs⟩ ∧ vs[2]? = some (.str file' tf) ∧ (file == file') = true ∧ SupLine fld txt z
  ok : fld ≠ "self" ∧ fld ≠ "__class__" ∧ fld ≠ "super" ∧ (fld == ("__debug__" : Str)) = false
section
variable {prog : Program} {w : World} {A : Around} {E : Value → Shared → Prop} {R : Result → Shared → Prop} {s : Shared} {K : Frag} {C fI cc : Addr} {qual fld : Str}
/-- the fresh error at x behind __init__ -/
structure SupEnd (h h' : Heap) (x C dx t1 : Addr) (fld : Str) (v : Value) : Prop where
  keep : ∀ b o, b ≠ x → h.get? b = some o → h'.get? b = some o
  obj : h'.get? x = some { cls := .ref C, dict := some dx, data := .fields #[.ref t1, .none, .none, .none, .bool false, .none] }
  dbig : h.objs.size ≤ dx
  dne : dx ≠ x
  ns : h'.Ns1 dx (fun y => if y = fld then some v else none)
theorem kept_other {h : Heap} {K : Frag} {x : Addr} {h' : Heap} (X : K.In h) (hx : K.lookup x = none) (k : ∀ b o, b ≠ x → h.get? b = some o → h'.get? b = some o) : K.In h' := fun a o e => k a o (fun z => by rw [z, hx] at e; cases e) (X a o e)
/-- the built-in __init__, bound, called with one text -/
theorem mw_call {h : Heap} {g : Array GenState} {d : Drawn} {t : Nat} {os : OsState} {nm q : Str} {N : Addr} {bs bm : List Value} {hdct : Bool} {sn : List Str} {sub : List Value} {ab : Bool} {col : Option Bool} {dd : Option Addr} {k0 k1 k2 k3 k5 : Option Value} {u x t0 : Addr} {y : Value} {Q : Value → Shared → Prop}
    (hC : h.get? C = some (excClassObj nm q C N bs bm hdct sn sub ab col dd k0 k1 k2 k3 k5 "ValueError.__new__")) (hx : h.get? x = some (excO C t0)) (hu : h.get? u = some (kxs_mw "ValueError.__init__" x))
    (hq : ∀ h' t1, (∀ b o, b ≠ x → h.get? b = some o → h'.get? b = some o) → h'.get? x = some (excO C t1) → Q .none ⟨h', g, d, t, os⟩) :
    wpAny (model prog w) A (call (.ref u) [y]) Q E ⟨h, g, d, t, os⟩ := by
  have m1 : (Value.type "method-wrapper" == Value.type "method" || Value.type "method-wrapper" == Value.type "builtin_function_or_method" || Value.type "method-wrapper" == Value.type "method-wrapper") = true := by decide
  refine wpAny_call (codeAny_of_tree ?_)
  show wpAny _ A.in1 (callAny (.ref u) ⟨[y], []⟩) _ _ _
  simp only [callAny]
  refine wpAny_bind (wpAny_load hu ?_)
  simp only [kxs_mw, m1, if_true]
  refine W.KFB.if_so (by decide) ?_
  refine wpAny_bind (check_bound_init F.excCall_ValueError hC hx rfl ?_)
  refine wpAny_bind (wpAny_pure (wpAny_pure ?_))
  refine ⟨Code.quiet_builtin _ (by decide +kernel), codeAny_builtin F.excBase_ValueError.initEntry ?_⟩
  rw [Around.under_plainId F.excBase_ValueError.init.plain _]
  wp_walk
  refine hq _ h.objs.size (fun b o hb ho => ?_) ?_
  · rw [Heap.get?_update_other _ _ (Ne.symm hb)]; exact Heap.get?_push_of_some _ ho
  · rw [Heap.get?_update_self _ (Heap.get?_push_of_some _ hx) rfl]; rfl
theorem sup_init (T : SupT prog.main.file K C fI cc qual fld) {x t0 : Addr} {v : Value} {mg mb : Str → Option Value} {args : Args} (X : K.In s.heap) (hlim : s.heap.NoLimit) (G : s.heap.Ns mainGlobals mg) (mgs : mg "super" = none) (B : s.heap.Ns builtinsNs mb) (mbs : mb "super" = some (.type "super"))
    (hx : s.heap.get? x = some (excO C t0)) (hnx : K.lookup x = none) (hroom : A.depth < recursionLimit) (htop : (prog.main.scope.names.lookup ("super" : Str)).isSome = false)
    (hb : ∀ (kV doc pm : Value) (an : Option Addr) (cda : Addr) (ct : Value) (txt : Str) (z : SupPos), BindsTo s (ksFn "__init__" qual (supArgs fld z) (supBody fld txt z) (supScope fld) .none kV doc pm an (.ref cda) ct cc) args [("self", .ref x), (fld, v)])
    (hq : ∀ h' tk dx t1, SupEnd s.heap h' x C dx t1 fld v → R (.ok (.ret .none)) { s with heap := h', toks := tk }) :
    codeAny (model prog w) A (.call (.ref fI) args) R s := by
  obtain ⟨oc, od, kV, doc, pm, an, cda, ct, osl, txt, z, ho, hcd, ccl, cdd, vs, ccs, file', tf, hcode, hvs, hfile, hline⟩ := T.fn
  obtain ⟨cl, cld, csl, hcell⟩ := T.cell
  obtain ⟨n1, n2, n3, n4⟩ := T.ok
  obtain ⟨cd, hcdC, hm, hh'⟩ := T.cd
  have b1 : ((fld : Str) == ("self" : Str)) = false := by simpa using n1
  have b2 : ((fld : Str) == ("__class__" : Str)) = false := by simpa using n2
  have b3 : ((fld : Str) == ("super" : Str)) = false := by simpa using n3
  have b4 : (("self" : Str) == fld) = false := by simpa using Ne.symm n1
  have b5 : (("__class__" : Str) == fld) = false := by simpa using Ne.symm n2
  have b6 : (("super" : Str) == fld) = false := by simpa using Ne.symm n3
  refine ks_codeAny_call_defAt (body := supBody fld txt z) (binds := [("self", .ref x), (fld, v)]) hroom (X _ _ ho) rfl hlim (codeRec_of X hcd) rfl (hb kV doc pm an cda ct txt z) ?_ ?_ (fun h₁ hns hk => ?_) rfl rfl rfl
  · intro y hy
    have hy : y ∈ [(("self" : Str), NameKind.local), (fld, .local), ("__class__", .free), ("super", .globalImplicit)] := hy
    simp only [List.mem_cons, List.not_mem_nil, or_false] at hy
    rcases hy with rfl | rfl | rfl | rfl <;> (intro q; cases q)
  · intro y hy
    simp only [List.mem_cons, List.not_mem_nil, or_false] at hy
    rcases hy with rfl | rfl
    · rfl
    · show List.lookup fld [(("self" : Str), NameKind.local), (fld, .local), ("__class__", .free), ("super", .globalImplicit)] = some .local
      simp [List.lookup, b1]
  · have X₁ : K.In h₁ := X.keeps hk
    have hx₁ := hk _ _ hx
    have G₁ := G.keeps hk
    have B₁ := B.keeps hk
    have lk : ∀ y : Str, [(("self" : Str), Value.ref x), (fld, v)].reverse.lookup y = if y = fld then some v else if y = "self" then some (.ref x) else none := fun y => by
      show List.lookup y [(fld, v), (("self" : Str), Value.ref x)] = _
      by_cases e : y = fld
      · subst e; simp [List.lookup]
      · have e1 : (y == fld) = false := by simpa using e
        rw [if_neg e]
        by_cases e2 : y = "self"
        · subst e2; simp [List.lookup, e1]
        · have e3 : (y == ("self" : Str)) = false := by simpa using e2
          rw [if_neg e2]
          simp [List.lookup, e1, e3]
    have kf : ∀ y : Str, (ksEnv qual (supScope fld) s.heap.objs.size fI (.ref cda) cc).kindOf y = List.lookup y [(("self" : Str), NameKind.local), (fld, .local), ("__class__", .free), ("super", .globalImplicit)] := fun y => rfl
    have kS : (ksEnv qual (supScope fld) s.heap.objs.size fI (.ref cda) cc).kindOf "self" = some .local := by rw [kf]; rfl
    have kF : (ksEnv qual (supScope fld) s.heap.objs.size fI (.ref cda) cc).kindOf fld = some .local := by rw [kf]; simp [List.lookup, b1]
    have kC : (ksEnv qual (supScope fld) s.heap.objs.size fI (.ref cda) cc).kindOf "__class__" = some .free := by
      rw [kf]
      have e1 : (("__class__" : Str) == ("self" : Str)) = false := by decide
      simp [List.lookup, b5, e1]
    have kU : (ksEnv qual (supScope fld) s.heap.objs.size fI (.ref cda) cc).kindOf "super" = some .globalImplicit := by
      rw [kf]
      have e1 : (("super" : Str) == ("self" : Str)) = false := by decide
      have e2 : (("super" : Str) == ("__class__" : Str)) = false := by decide
      simp [List.lookup, b6, e1, e2]
    obtain ⟨cdD, hD1, hD2⟩ : ∃ oD, h₁.get? C = some oD ∧ oD.data = .cls cd := by
      have hcd2 := hcdC
      unfold clsIn at hcd2
      split at hcd2
      · rename_i c d cd' sl ho'
        cases hcd2
        exact ⟨_, X₁ _ _ ho', rfl⟩
      · cases hcd2
    obtain ⟨nm, N', qn, bs, bm, hdct, sn, sub, ab, col, dd, k0, k1, k2, k3, k5, hC, hT⟩ := excInit_of X₁ T.cls
    have I₁ : InstAt h₁ x (excO C t0) C none := ⟨hx₁, rfl, rfl, trivial⟩
    have hxC : x ≠ C := ks_ne X₁ I₁ hcdC
    obtain ⟨hh, gs, dr, tk, os⟩ := s
    show _root_.PySem.wpAt (model prog w) _ (.func (supBody fld txt z) (ksEnv qual (supScope fld) hh.objs.size fI (.ref cda) cc)) (execs (supBody fld txt z) (ksEnv qual (supScope fld) hh.objs.size fI (.ref cda) cc)) _ _ _
    obtain ⟨pl, hpl⟩ := hline.call (ksEnv qual (supScope fld) hh.objs.size fI (.ref cda) cc)
    refine ks_wpAt_execs_cons (ks_wpAt_Expr_any (ks_wpAt_MethodCall (pl := pl) ?_ hpl) rfl (hline.sw1 _))
    · refine ks_wpAt_super_base kU kC (by decide) rfl (X₁ _ _ ho) rfl (show (_ : List Arg).head? = some ⟨"self", none, z.a1⟩ from rfl) rfl (X₁ _ _ hcode) rfl hvs hfile htop ?_
      refine ks_loadName_global rfl kU (Calls.loadGlobal_builtin G₁ mgs B₁ mbs ⟨rfl, ?_⟩)
      refine wpAny_loadName_free rfl kC rfl ⟨_, X₁ _ _ hcell, rfl⟩ ?_
      refine wpAny_loadName_local rfl kS hns (show _ = some (Value.ref x) by rw [lk, if_neg (Ne.symm n1), if_pos rfl]) ?_
      refine ks_wpAny_isType_cls hD1 hD2 ⟨rfl, ?_⟩
      refine ks_wpAny_call_super hD1 hD2 hx₁ rfl (fun c e => by cases e) (looks_mroIn X₁ T.mroC) (fun h₂ e₂ k₂ => ?_)
      have X₂ : K.In h₂ := X₁.keeps k₂
      have hx₂ := k₂ _ _ hx₁
      have I₂ : InstAt h₂ x (excO C t0) C none := ⟨hx₂, rfl, rfl, trivial⟩
      have hsup := T.sup
      unfold ks_superIn at hsup
      rw [hcdC] at hsup
      refine kxs_getMethod kxs_ValueError e₂ (looks_opaque X₂ T.any_) (l₀ := cd.mro) (fun A Q E s k q => wpAny_bind ((looks_clsIn X₂ hcdC) A _ E s k (wpAny_pure q))) rfl X₂ hsup (I₂.type.andThen (looks_subIn X₂ T.subB)) hxC (by decide) ?_
      have k₃ : ∀ b o, h₂.get? b = some o → (h₂.push (kxs_mw "ValueError.__init__" x)).get? b = some o := fun b o e => Heap.get?_push_of_some _ e
      have hmw : (h₂.push (kxs_mw "ValueError.__init__" x)).get? h₂.objs.size = some (kxs_mw "ValueError.__init__" x) := Heap.get?_push_size _ rfl
      have hx₃ := k₃ _ _ hx₂
      have hC₃ := k₃ _ _ (k₂ _ _ hC)
      refine kxs_callWith (i := "ValueError.__init__") (x := x) rfl ?_
      show wpAny _ _ (evalArgs _ true ((false, eval (.Constant (.str txt) 0 z.p3) _) :: []) []) _ _ _
      refine Calls.evalArgs_plain ?_
      refine Calls.spliced_cons ?_
      refine Calls.Constant_str ?_
      refine Calls.spliced_nil ⟨hmw, ?_⟩
      refine mw_call hC₃ hx₃ hmw fun h₄ t1 k₄ hx₄ => ?_
      have X₄ : K.In h₄ := kept_other ((X₁.keeps k₂).keeps k₃) hnx k₄
      have xlt : x < hh.objs.size := Heap.lt_size hx
      have hns₄ : h₄.Ns hh.objs.size (fun y => [(("self" : Str), Value.ref x), (fld, v)].reverse.lookup y) := by
        obtain ⟨oL, es, ep, hL, r⟩ := hns
        exact ⟨oL, es, ep, k₄ _ _ (Nat.ne_of_gt xlt) (k₃ _ _ (k₂ _ _ hL)), r⟩
      have Llt : hh.objs.size < h₄.objs.size := by
        obtain ⟨oL, es, ep, hL, r⟩ := hns₄
        exact Heap.lt_size hL
      show _root_.PySem.wpAt (model prog w) _ (.func (supBody fld txt z) (ksEnv qual (supScope fld) hh.objs.size fI (.ref cda) cc)) (execs [.Assign [.Attribute (.Name "self" z.q1) fld z.q2] (.Name fld z.q3) z.q4] (ksEnv qual (supScope fld) hh.objs.size fI (.ref cda) cc)) _ _ _
      refine ks_wpAt_execs_cons (ks_wpAt_Assign_Attr ?_ (hline.sw2 _))
      refine wpAt_of_wpAny (wpAny_Name (wpAny_loadName_local rfl kF hns₄ (show _ = some v by rw [lk, if_pos rfl]) ?_) n4)
      refine wpAny_Name (wpAny_loadName_local rfl kS hns₄ (show _ = some (Value.ref x) by rw [lk, if_neg (Ne.symm n1), if_pos rfl]) ?_) (by decide)
      refine set_plain X₄ (ox := excO C t1) (od := none) ⟨hx₄, rfl, rfl, trivial⟩ T.sa ?_
      refine PySem.HandSPX.exc_osa X₄ hx₄ hcdC hm hh' T.noN (fun h₅ tk₅ dx k₅ dn dne hx₅ hn₅ => ?_)
      show _root_.PySem.wpAt (model prog w) _ _ (execs [] _) _ _ _
      exact wpAt_of_wpAny (wpAny_execs_nil (hq h₅ tk₅ dx t1 ⟨fun b o hb e => k₅ b o hb (k₄ b o hb (k₃ _ _ (k₂ _ _ (hk b o e)))), hx₅, Nat.le_trans (Nat.le_of_lt Llt) dn, dne, hn₅⟩))
/-- how its arguments bind -/
structure SupBind (fld : Str) : Prop where
  pos : ∀ (qual txt : Str) (z : SupPos) (kV doc pm : Value) (an : Option Addr) (cda cc : Addr) (ct x v : Value), bindArgs (ksFn "__init__" qual (supArgs fld z) (supBody fld txt z) (supScope fld) .none kV doc pm an (.ref cda) ct cc) ⟨[x, v], []⟩ = pure ([(("self" : Str), x), (fld, v)] : List (Str × Value))
  key : ∀ (qual txt : Str) (z : SupPos) (kV doc pm : Value) (an : Option Addr) (cda cc : Addr) (ct x v : Value), bindArgs (ksFn "__init__" qual (supArgs fld z) (supBody fld txt z) (supScope fld) .none kV doc pm an (.ref cda) ct cc) ⟨[x], [(fld, v)]⟩ = pure ([(("self" : Str), x), (fld, v)] : List (Str × Value))
/-- a made error at e, its dict at d -/
structure SupMade (h h' : Heap) (e C d : Addr) (fld : Str) (v : Value) : Prop where
  keep : ∀ b o, h.get? b = some o → h'.get? b = some o
  new : h.objs.size ≤ e
  obj : ∃ t1 : Addr, h'.get? e = some { cls := .ref C, dict := some d, data := .fields #[.ref t1, .none, .none, .none, .bool false, .none] }
  dbig : h.objs.size ≤ d
  dne : d ≠ e
  ns : h'.Ns1 d (fun y => if y = fld then some v else none)
theorem sup_made (T : SupT prog.main.file K C fI cc qual fld) (TB : SupBind fld) {v : Value} {mg mb : Str → Option Value} (X : K.In s.heap) (hlim : s.heap.NoLimit) (G : s.heap.Ns mainGlobals mg) (mgs : mg "super" = none) (B : s.heap.Ns builtinsNs mb) (mbs : mb "super" = some (.type "super"))
    (hroom : A.depth + 1 < recursionLimit) (htop : (prog.main.scope.names.lookup ("super" : Str)).isSome = false)
    (hq : ∀ h' tk e d, SupMade s.heap h' e C d fld v → R (.ok (.ret (.ref e))) { s with heap := h', toks := tk }) :
    codeAny (model prog w) A (.call (.ref C) ⟨[v], []⟩) R s := by
  obtain ⟨nm, N', qn, bs, bm, hdct, sn, sub, ab, col, dd, k0, k1, k2, k3, k5, hC, hT⟩ := excInit_of X T.cls
  obtain ⟨hp, g, dr, tk, os⟩ := s
  have k : ∀ b o, hp.get? b = some o → ((hp.push (kdv_tup [v])).push (excO C hp.objs.size)).get? b = some o := fun b o e => Heap.get?_push_of_some _ (Heap.get?_push_of_some _ e)
  have hget : ((hp.push (kdv_tup [v])).push (excO C hp.objs.size)).get? (hp.objs.size + 1) = some (excO C hp.objs.size) := by heap_get
  have hnx : K.lookup (hp.objs.size + 1) = none := by
    cases e : K.lookup (hp.objs.size + 1) with
    | none => rfl
    | some o => exact absurd (Nat.lt_of_succ_lt (Heap.lt_size (X _ _ e))) (Nat.lt_irrefl _)
  refine PySem.HandSPX.call_own F.excBase_ValueError hT hC (looks_findIn X T.iC) (fun self => bind_fn X self T.tC) (by rw [sizeLine_eq]; show 1 ≤ _; omega) ?_
  refine sup_init (s := ⟨(hp.push (kdv_tup [v])).push (excO C hp.objs.size), g, dr, tk, os⟩) T (v := v) (X.keeps k) (hlim.keeps k) (G.keeps k) mgs (B.keeps k) mbs hget hnx hroom htop (fun kV doc pm an cda ct txt z => .of_eq (TB.pos qual txt z kV doc pm an cda cc ct _ v)) fun h' tk' dx t1 q => ⟨rfl, ?_⟩
  have old : ∀ b o, hp.get? b = some o → h'.get? b = some o := fun b o e => q.keep b o (Nat.ne_of_lt (Nat.lt_succ_of_lt (Heap.lt_size e))) (k b o e)
  have zd : hp.objs.size ≤ dx := by
    have := q.dbig
    simp only [Heap.size_push] at this
    have h2 : hp.objs.size ≤ hp.objs.size + 1 + 1 := by omega
    exact Nat.le_trans h2 this
  exact hq h' tk' (hp.objs.size + 1) dx ⟨old, Nat.le_succ _, ⟨t1, q.obj⟩, zd, q.dne, q.ns⟩
section
variable {M : Model} {h : Heap} {g : Array GenState} {d : Drawn} {t : Nat} {os : OsState} {nm q : Str} {N : Addr} {bs bm : List Value} {hdct : Bool} {sn : List Str} {sub : List Value} {ab : Bool} {col : Option Bool} {dd : Option Addr} {k0 k1 k2 k3 k5 : Option Value} {y : Value}
theorem newK_check {Q : Unit → Shared → Prop} (hT : ∀ X : String, bm.contains (.type X) = He.veBase.contains (.type X)) (hC : h.get? C = some (excClassObj nm q C N bs bm hdct sn sub ab col dd k0 k1 k2 k3 k5 "ValueError.__new__")) (hq : Q () ⟨h, g, d, t, os⟩) :
    wpAny M A (checkBuiltinCall "ValueError.__new__" ⟨[.ref C], [(fld, y)]⟩) Q E ⟨h, g, d, t, os⟩ := by
  have FV := F.excBase_ValueError
  have c1 : (Value.ref C :: bm).contains (.type "ValueError") = true := by rw [List.contains_cons, hT]; rfl
  have c2 := FV.noStar
  simp only [checkBuiltinCall, FV.newKind, FV.newSplit, FV.newRow]
  repeat (first | refine wpAny_loadPart_at hC ?_ | (refine wpAny_isSubtype_exc hC ?_; rw [c1]) | refine wpAny_staticBase_exc hC ?_ | refine wpAny_madeBy_exc hC ?_ | simp only [bne_self_eq_false, Bool.false_eq_true, if_false] | wp_step)
  exact hq
theorem newK_run (hT : ∀ X : String, bm.contains (.type X) = He.veBase.contains (.type X)) (hC : h.get? C = some (excClassObj nm q C N bs bm hdct sn sub ab col dd k0 k1 k2 k3 k5 "ValueError.__new__"))
    (hq : R (.ok (.ret (.ref (h.objs.size + 1)))) ⟨(h.push (kdv_tup [])).push (excO C h.objs.size), g, d, t, os⟩) :
    codeAny (model prog w) A (.builtin "ValueError.__new__" ⟨[.ref C], [(fld, y)]⟩) R ⟨h, g, d, t, os⟩ := by
  have FV := F.excBase_ValueError
  have c0 := FV.ends
  have c1 : (Value.ref C :: bm).contains (.type "ValueError") = true := by rw [List.contains_cons, hT]; rfl
  have c2 : (Value.ref C :: bm).contains (.type "AttributeError") = false := by rw [List.contains_cons, hT]; rfl
  have c3 : (Value.ref C :: bm).contains (.type "NameError") = false := by rw [List.contains_cons, hT]; rfl
  refine codeAny_builtinAt FV.entry ?_
  unfold Builtin.«BaseException.__new__»
  refine wpAt_bind ?_
  show wpAt _ _ _ (stack >>= _) _ _ _
  refine wpAt_bind (wpAt_stack fun p below => wpAt_of_wpAny ?_)
  wp_walk
  refine wpAt_of_wpAny ?_
  rw [FV.owner]
  repeat (first | with_reducible refine wpAny_madeHere_exc FV.canon hC ?_ | with_reducible refine wpAny_loadPart_at hC ?_ | (with_reducible refine wpAny_isSubtype_exc hC ?_; first | rw [c1] | rw [c2] | rw [c3]) | wp_step)
  show R _ _
  rw [Heap.size_push]
  exact hq
theorem callK_type {Q : Fin → Shared → Prop} (hT : ∀ X : String, bm.contains (.type X) = He.veBase.contains (.type X)) (hC : h.get? C = some (excClassObj nm q C N bs bm hdct sn sub ab col dd k0 k1 k2 k3 k5 "ValueError.__new__"))
    (hi : Looks (model prog w) h (typeLookup (.ref C) "__init__") (some (.ref fI))) (hb : ∀ self, Looks (model prog w) h (bindSpecial (.ref fI) self) (.ref fI, [self]))
    (hq : codeAny (model prog w) A (.call (.ref fI) ⟨[.ref (h.objs.size + 1)], [(fld, y)]⟩) (fun r s' => match r with | .ok (.ret v) => v = .none ∧ Q (.done (.ret (.ref (h.objs.size + 1)))) s' | .ok _ => False | .error e => E e s')
      ⟨(h.push (kdv_tup [])).push (excO C h.objs.size), g, d, t, os⟩) :
    wpAny (model prog w) A (Builtin.«type.__call__» ⟨[.ref C], [(fld, y)]⟩) Q E ⟨h, g, d, t, os⟩ := by
  repeat (first | with_reducible refine wpAny_loadPart_at hC ?_ | with_reducible refine wpAny_madeBy_exc hC ?_ | wp_step)
  refine codeAny_call_builtin_code (Code.quiet_builtin _ F.excBase_ValueError.quiet) (newK_check hT hC ?_)
  refine newK_run hT hC ?_
  show wpAny _ _ _ _ _ _
  have k : ∀ b o, h.get? b = some o → ((h.push (kdv_tup [])).push (excO C h.objs.size)).get? b = some o := fun b o e => Heap.get?_push_of_some _ (Heap.get?_push_of_some _ e)
  have hC₁ := k _ _ hC
  have hg : ((h.push (kdv_tup [])).push (excO C h.objs.size)).get? (h.objs.size + 1) = some (excO C h.objs.size) := by heap_get
  have c1 : (Value.ref C :: bm).contains (.ref C) = true := by simp
  have i1 := hi.keeps k
  have b1 := (hb (.ref (h.objs.size + 1))).keeps k
  unfold isInstance
  repeat (first | with_reducible refine wpAny_loadPart_at hg ?_ | (with_reducible refine wpAny_isSubtype_exc hC₁ ?_; rw [c1]) | wp_step)
  show wpAny _ _ (typeLookup (.ref C) _) _ _ _
  refine i1.at (wpAny_holding (wpAny_bind (b1.at ?_)))
  refine wpAny_bind (wpAny_call (codeAny_mono hq fun r s' z => ?_))
  rcases r with e | (v | _ | _ | _) <;> first | exact z | exact z.elim | skip
  obtain ⟨rfl, z⟩ := z
  first
    | exact wpAny_pure (wpAny_pure z)
    | (wp_walk; exact z)
theorem typeK_check {Q : Unit → Shared → Prop} (hC : h.get? C = some (excClassObj nm q C N bs bm hdct sn sub ab col dd k0 k1 k2 k3 k5 "ValueError.__new__")) (hq : Q () ⟨h, g, d, t, os⟩) :
    wpAny M A (checkBuiltinCall "type.__call__" ⟨[.ref C], [(fld, y)]⟩) Q E ⟨h, g, d, t, os⟩ := by
  have f3 := tc_sub
  have hTy : (⟨h, g, d, t, os⟩ : Shared).TypeIs (.ref C) "type" := ⟨_, hC, rfl⟩
  simp only [checkBuiltinCall, tc_kind, tc_split]
  repeat (any_goals (first | assumption | with_reducible refine wpAny_loadPart_at hC ?_ | with_reducible refine wpAny_onRaise ?_ | with_reducible refine wpAny_map ?_ | wp_step))
theorem call_ownK (hT : ∀ X : String, bm.contains (.type X) = He.veBase.contains (.type X)) (hC : h.get? C = some (excClassObj nm q C N bs bm hdct sn sub ab col dd k0 k1 k2 k3 k5 "ValueError.__new__"))
    (hi : Looks (model prog w) h (typeLookup (.ref C) "__init__") (some (.ref fI))) (hb : ∀ self, Looks (model prog w) h (bindSpecial (.ref fI) self) (.ref fI, [self]))
    (hq : codeAny (model prog w) (A.under (.builtin "type.__call__" ⟨[.ref C], [(fld, y)]⟩)) (.call (.ref fI) ⟨[.ref (h.objs.size + 1)], [(fld, y)]⟩) (InitBack (h.objs.size + 1) R) ⟨(h.push (kdv_tup [])).push (excO C h.objs.size), g, d, t, os⟩) :
    codeAny (model prog w) A (.call (.ref C) ⟨[], [(fld, y)]⟩) R ⟨h, g, d, t, os⟩ := by
  have f1 := tc_lookup
  have f2 := tc_bind (.ref C)
  have f3 := tc_sub
  have hTy : (⟨h, g, d, t, os⟩ : Shared).TypeIs (.ref C) "type" := ⟨_, hC, rfl⟩
  refine codeAny_of_tree ?_
  show wpAny _ _ (callAny (.ref C) _) _ _ _
  repeat (any_goals (first | assumption | with_reducible refine wpAny_loadPart_at hC ?_ | wp_step))
  refine ⟨rfl, ?_⟩
  refine codeAny_call_builtin_at (Code.quiet_builtin _ (by decide +kernel)) entry_typeCall (typeK_check hC (callK_type hT hC hi hb (codeAny_mono hq fun r s' z => ?_)))
  rcases r with e | (v | _ | _ | _) <;> exact z
end
/-- C(fld = v) -/
theorem sup_madeK (T : SupT prog.main.file K C fI cc qual fld) (TB : SupBind fld) {v : Value} {mg mb : Str → Option Value} (X : K.In s.heap) (hlim : s.heap.NoLimit) (G : s.heap.Ns mainGlobals mg) (mgs : mg "super" = none) (B : s.heap.Ns builtinsNs mb) (mbs : mb "super" = some (.type "super"))
    (hroom : A.depth + 1 < recursionLimit) (htop : (prog.main.scope.names.lookup ("super" : Str)).isSome = false)
    (hq : ∀ h' tk e d, SupMade s.heap h' e C d fld v → R (.ok (.ret (.ref e))) { s with heap := h', toks := tk }) :
    codeAny (model prog w) A (.call (.ref C) ⟨[], [(fld, v)]⟩) R s := by
  obtain ⟨nm, N', qn, bs, bm, hdct, sn, sub, ab, col, dd, k0, k1, k2, k3, k5, hC, hT⟩ := excInit_of X T.cls
  obtain ⟨hp, g, dr, tk, os⟩ := s
  have k : ∀ b o, hp.get? b = some o → ((hp.push (kdv_tup [])).push (excO C hp.objs.size)).get? b = some o := fun b o e => Heap.get?_push_of_some _ (Heap.get?_push_of_some _ e)
  have hget : ((hp.push (kdv_tup [])).push (excO C hp.objs.size)).get? (hp.objs.size + 1) = some (excO C hp.objs.size) := by heap_get
  have hnx : K.lookup (hp.objs.size + 1) = none := by
    cases e : K.lookup (hp.objs.size + 1) with
    | none => rfl
    | some o => exact absurd (Nat.lt_of_succ_lt (Heap.lt_size (X _ _ e))) (Nat.lt_irrefl _)
  refine call_ownK hT hC (looks_findIn X T.iC) (fun self => bind_fn X self T.tC) ?_
  refine sup_init (s := ⟨(hp.push (kdv_tup [])).push (excO C hp.objs.size), g, dr, tk, os⟩) T (v := v) (X.keeps k) (hlim.keeps k) (G.keeps k) mgs (B.keeps k) mbs hget hnx hroom htop (fun kV doc pm an cda ct txt z => .of_eq (TB.key qual txt z kV doc pm an cda cc ct _ v)) fun h' tk' dx t1 q => ⟨rfl, ?_⟩
  have old : ∀ b o, hp.get? b = some o → h'.get? b = some o := fun b o e => q.keep b o (Nat.ne_of_lt (Nat.lt_succ_of_lt (Heap.lt_size e))) (k b o e)
  have zd : hp.objs.size ≤ dx := by
    have := q.dbig
    simp only [Heap.size_push] at this
    have h2 : hp.objs.size ≤ hp.objs.size + 1 + 1 := by omega
    exact Nat.le_trans h2 this
  exact hq h' tk' (hp.objs.size + 1) dx ⟨old, Nat.le_succ _, ⟨t1, q.obj⟩, zd, q.dne, q.ns⟩
end
end MP
end

section
set_option maxHeartbeats 4000000
/-! MpErr2: errors as values: made, asked for their class, read. -/
namespace MP
open PySem PySem.Spec L2

section
variable {X : Cx} {pins : List (Addr × Obj)} {σ : St} {H : Hp} {s : Shared}
/-- the two new objects of a made error are tracked -/
theorem Inv.sup {h' : Heap} {a C d : Addr} {fld : Str} {y : V} {u : Value} {t' : Nat} (I : Inv X pins σ H s) (M : SupMade s.heap h' a C d fld u) (ry : RelV y u) :
    Inv X pins σ (upd (upd H d (exd d [(fld, y)])) a (exo a C (some d))) { s with heap := h', toks := t' } := by
  have hna : H a = none := I.hok.fresh M.new
  have hnd : H d = none := I.hok.fresh M.dbig
  have na : ∀ {b : Addr} {o : Obj}, s.heap.get? b = some o → b ≠ a := fun {b o} q => Nat.ne_of_lt (Nat.lt_of_lt_of_le (Heap.lt_size q) M.new)
  have nd : ∀ {b : Addr} {o : Obj}, s.heap.get? b = some o → b ≠ d := fun {b o} q => Nat.ne_of_lt (Nat.lt_of_lt_of_le (Heap.lt_size q) M.dbig)
  have out : ∀ {b : Addr} {o : HO}, H b = some o → upd (upd H d (exd d [(fld, y)])) a (exo a C (some d)) b = some o := fun {b o} q => by rw [upd_ne (ne_of_none q hna), upd_ne (ne_of_none q hnd)]; exact q
  obtain ⟨t1, ho⟩ := M.obj
  refine I.un (t' := t') ⟨fun b o q _ _ _ => M.keep b o q, fun b o q _ _ _ => ⟨o.slots, M.keep b o q⟩, fun b o q n _ => by rw [upd_ne (na q), upd_ne (nd q)]; exact n, fun b o q _ => ⟨o, M.keep b o q⟩, fun b xs q => out q, fun b o v q => out q, fun b ps q => ⟨#[], by rw [out q]; simp⟩⟩ fun b o q => ?_
  by_cases hb : b = a
  · subst hb
    rw [upd_same] at q
    cases q
    exact exo_ok ho
  · rw [upd_ne hb] at q
    by_cases hd : b = d
    · subst hd
      rw [upd_same] at q
      cases q
      exact exd_ok M.ns (relO_put (fs := []) ry fun g => True.intro)
    · rw [upd_ne hd] at q
      exact (I.hok b o q).stay (fun c v hc z => M.keep c v z) (fun c hc => out hc) fun c xs hc => out hc
end
/-- C(e), fld the field -/
def tSup (C : Addr) (fld : Str) (te : TE) : TE := fun σ H Q => te σ H fun v H1 => ∀ a d, H1 a = none → H1 d = none → d ≠ a → Q (.ref a) (upd (upd H1 d (exd d [(fld, v)])) a (exo a C (some d)))
section
variable {X : Cx} {x : Str} {C fI cc : Addr} {qual fld : Str} {e : Expr} {te : TE} {p pos kp : Pos} {k : Nat}
theorem sup_run {pins : List (Addr × Obj)} {σ : St} {H : Hp} {s : Shared} {Q : VK} {v : V} {u : Value} (T : SupT X.prog.main.file X.K C fI cc qual fld) (TB : SupBind fld) (hr : Room k X.A) (htop : (X.prog.main.scope.names.lookup ("super" : Str)).isSome = false) (mgs : X.mg "super" = none)
    (I : Inv X pins σ H s) (r : RelV v u) (b : Bool) (q : ∀ a d, H a = none → H d = none → d ≠ a → Q (.ref a) (upd (upd H d (exd d [(fld, v)])) a (exo a C (some d)))) :
    wpAny (model X.prog X.w) X.A (if b then call (.ref C) [] [(fld, u)] else call (.ref C) [u]) (EP X pins σ Q) X.xe s := by
  obtain ⟨mb, h1, h2⟩ := I.mod.blt
  have room : X.A.depth + 1 < recursionLimit := by have := hr.dp; omega
  have mbs : mb "super" = some (.type "super") := (h2 _ (by decide)).trans (by decide +kernel)
  have fin : ∀ h' tk a d, SupMade s.heap h' a C d fld u → EP X pins σ Q (.ref a) { s with heap := h', toks := tk } := fun h' tk a d M =>
    ⟨.ref a, _, Inv.sup I M r, rfl, q a d (I.hok.fresh M.new) (I.hok.fresh M.dbig) M.dne⟩
  cases b with
  | false =>
    show wpAny _ _ (call (.ref C) [u]) _ _ _
    exact wpAny_call (sup_made T TB I.kIn I.nolimit (I.mod.glob.keeps I.bk) mgs (h1.keeps I.bk) mbs room htop fun h' tk a d M => fin h' tk a d M)
  | true =>
    show wpAny _ _ (call (.ref C) [] [(fld, u)]) _ _ _
    exact wpAny_call (sup_madeK T TB I.kIn I.nolimit (I.mod.glob.keeps I.bk) mgs (h1.keeps I.bk) mbs room htop fun h' tk a d M => fin h' tk a d M)
theorem pe_sup (T : SupT X.prog.main.file X.K C fI cc qual fld) (TB : SupBind fld) (hr : Room k X.A) (htop : (X.prog.main.scope.names.lookup ("super" : Str)).isSome = false) (mgs : X.mg "super" = none) (gC : X.mg x = some (.ref C)) (kC : PySem.W.keepIn X.K (.ref C) = true) (hg : Gl X x)
    (he : PE X e te) (hs : starEach [e] X.env = (false, eval e X.env) :: starEach [] X.env := by rfl) (hpl : (backTo pos (starEach [] X.env)).any (·.1) = false := by rfl) (hdb : (x == ("__debug__" : Str)) = false := by decide) :
    PE X (.Call (.Name x p) [e] [] pos) (tSup C fld te) := by
  refine ⟨fun pins s σ H Q I h => ?_⟩
  refine wpAny_Call_Name_kw (ld_glob I hg gC ?_ hdb)
  refine PySem.W.callWith_K (h₀ := X.base) I.ok.mod.kin kC ?_ hs hpl
  rw [hs]
  show wpAny _ _ (spliced ((false, eval e X.env) :: backTo pos (starEach [] X.env))) _ _ s
  refine Calls.spliced_cons (thn (he.run pins s σ H _ I h) fun u s1 ⟨v, H1, I1, r1, q1⟩ => ?_)
  refine Calls.spliced_nil ⟨I1.kIn, ?_⟩
  exact sup_run T TB hr htop mgs I1 r1 false q1
theorem pe_supK (T : SupT X.prog.main.file X.K C fI cc qual fld) (TB : SupBind fld) (hr : Room k X.A) (htop : (X.prog.main.scope.names.lookup ("super" : Str)).isSome = false) (mgs : X.mg "super" = none) (gC : X.mg x = some (.ref C)) (kC : PySem.W.keepIn X.K (.ref C) = true) (hg : Gl X x) (he : PE X e te)
    (hall : (backToKw pos (keywordEach [⟨some fld, e, kp⟩] X.env)).all (·.1.isSome) = true := by rfl) (hks : (backToKw pos (keywordEach [⟨some fld, e, kp⟩] X.env)).filterMap (·.1) = [fld] := by rfl) (hdb : (x == ("__debug__" : Str)) = false := by decide)
    (hpl : ((backTo pos (starEach [] X.env)).any (·.1) || (backToKw pos (keywordEach [⟨some fld, e, kp⟩] X.env)).any (·.1.isNone)) = false := by rfl) :
    PE X (.Call (.Name x p) [] [⟨some fld, e, kp⟩] pos) (tSup C fld te) := by
  refine ⟨fun pins s σ H Q I h => ?_⟩
  refine wpAny_Call_Name_kw (ld_glob I hg gC ?_ hdb)
  refine PySem.W.callWith_KW0 (h₀ := X.base) I.ok.mod.kin kC hall ?_ hpl
  have h2 : (tCons te tNil) σ H fun vs H1 => match vs with
    | [v] => ∀ a d, H1 a = none → H1 d = none → d ≠ a → Q (.ref a) (upd (upd H1 d (exd d [(fld, v)])) a (exo a C (some d)))
    | _ => False := h
  refine thn ((pk_cons (nm := some fld) (kpos := kp) he pk_nil).run pos pins s σ H _ I h2) fun ws s2 ⟨zs, H2, I2, rz, q2⟩ => ⟨I2.kIn, ?_⟩
  rw [hks]
  cases rz with
  | nil => exact q2.elim
  | cons r0 rr =>
    cases rr with
    | cons _ _ => exact q2.elim
    | nil => exact sup_run T TB hr htop mgs I2 r0 true q2
end
/-! ### the rules -/
/-- what is known of a class whose errors are values -/
structure XcC (K : PySem.W.Frag) (C : Addr) : Prop where
  cl : (PySem.W.clsIn K C).isSome = true
  ga : PySem.W.findIn K (.ref C) "__getattribute__" = some (some (.builtin "BaseException.__getattribute__"))
  gg : PySem.W.findIn K (.ref C) "__getattr__" = some none
  sub : PySem.W.subIn K (.ref C) (.type "BaseException") = some true
  ha : PySem.W.findIn K (.ref C) "__class__" = some (some (.builtin "object.__class__"))
  hn : PySem.W.specialIn K (.builtin "object.__class__") "__get__" = some (some (.builtin "getset_descriptor.__get__"))
  ht : PySem.W.takesIn K (.builtin "object.__class__") = some true
  hm : PySem.W.mroIn K C (.type "object") = some true
  hd : PySem.W.hasDictIn K C = true
/-- isinstance(e, c), e an error as a value -/
def rIsX (K : PySem.W.Frag) : List V → Hp → VK → Prop := fun xs H Q => ∃ (a C : Addr) (c : V) (cv : Value) (b : Bool), xs = [.ref a, c] ∧ (H a = some (ExO (.ref C) a) ∨ ∃ d fs, H a = some (exo a C (some d)) ∧ H d = some (exd d fs)) ∧ XcC K C ∧ (∀ u, RelV c u → u = cv) ∧ PySem.W.kitOne K (.ref C) cv = some b ∧ Q (.bl b) H
theorem call_isX {X : Cx} : CallR X (.builtin "isinstance") (rIsX X.K) := by
  intro pins s σ H xs us Q I r h
  obtain ⟨a, C, c, cv, b, rfl, ha, T, hcv, e, q⟩ := h
  cases r with
  | cons rx rr =>
    cases rr with
    | cons rt rr =>
      cases rr
      cases rx
      have ec := hcv _ rt
      subst ec
      have J : ∃ ox od, PySem.W.InstAt s.heap a ox C od := by
        rcases ha with ha | ⟨d, fs, ha, hd⟩
        · have x : ObjOk X.prog X.w H s.heap a (.ext fun h => ∃ (oe : Obj) (vs : Array Value), h.get? a = some oe ∧ Zc (.ref C) none oe ∧ oe.data = .fields vs ∧ vs[1]? = some .none ∧ vs[2]? = some .none ∧ 4 < vs.size) := I.hok a _ ha
          obtain ⟨⟨oe, vs, ho, hz, hv, _⟩, _⟩ := x
          obtain ⟨oc, od, oda, osl⟩ := oe
          obtain ⟨h1, h2⟩ := hz
          dsimp only at h1 h2 hv
          subst h1 h2 hv
          exact ⟨_, none, ho, rfl, rfl, trivial⟩
        · obtain ⟨t1, ho⟩ := exo_at I.hok ha
          obtain ⟨mA, hns, _⟩ := exd_at I.hok hd
          obtain ⟨od, hod, _⟩ := lookIn_ns hns
          exact ⟨_, some od, ho, rfl, rfl, hod⟩
      obtain ⟨ox, od, J⟩ := J
      exact PySem.W.kia_one (PySem.W.kitx_exc T.cl T.ga T.gg T.sub T.ha T.hn T.ht T.hm) I.kIn J e (fun z => nomatch z) fun tk => ⟨.bl b, H, I.kept (t' := tk) fun _ _ z => z, rfl, q⟩
/-- e.f, e an error as a value -/
def tFx (K : PySem.W.Frag) (f : Str) (te : TE) : TE := fun σ H Q => te σ H fun x H1 => ∃ (a C d : Addr) (v : V), x = .ref a ∧ H1 a = some (exo a C (some d)) ∧ H1 d = some (exd d [(f, v)]) ∧ XcC K C ∧ PySem.W.findIn K (.ref C) f = some none ∧ Q v H1
theorem pe_fx {X : Cx} {e : Expr} {te : TE} {f : Str} {pos : Pos} (he : PE X e te) (hb : attributeBase e f X.env (eval e X.env) = eval e X.env := by rfl) : PE X (.Attribute e f pos) (tFx X.K f te) := by
  refine ⟨fun pins s σ H Q I h => ?_⟩
  refine attr_of hb (thn (he.run pins s σ H _ I h) fun u s1 ⟨x, H1, I1, rx, a, C, d, v, ex, ha, hd, T, hno, q⟩ => ?_)
  subst ex
  obtain rfl : u = Value.ref a := rx
  obtain ⟨t1, ho⟩ := exo_at I1.hok ha
  obtain ⟨mA, hns, hr⟩ := exd_at I1.hok hd
  obtain ⟨od, hod, hl⟩ := lookIn_ns hns
  obtain ⟨u, hu, ru⟩ := RelO.some_of (v := v) (o := mA f) (by
    have l : List.lookup f [(f, v)] = some v := by simp [List.lookup]
    rw [← l]; exact hr f)
  have J : PySem.W.InstAt s1.heap a _ C (some od) := ⟨ho, rfl, rfl, hod⟩
  exact HandSPX.exc_get I1.kIn J T.ga T.gg T.sub (PySem.W.findObj_own T.hd hno rfl (by rw [hl, hu])) (handed_of ru) ⟨v, H1, I1.tok _, ru, q⟩

/-- X(e), no field -/
def dExn (c : Str) (a : DE D) : DE D := fun env hp => bE (a env hp) fun _ h1 => some (.val (.exn c), h1)
/-- X(e), e kept -/
def dExf (c f : Str) (a : DE D) : DE D := fun env hp => bE (a env hp) fun x h1 => some (.val (.exf c f x), h1)
def clsOf : D → Option Str
  | .exn c => some c
  | .exf c _ _ => some c
  | _ => none
/-- isinstance of an error: by the classes' names -/
def dIsX (L : List Str) (g : Str → Bool) (a : DE D) : DE D := fun env hp => bE (a env hp) fun x h1 => match clsOf x with
  | some c => if c ∈ L then some (.val (.bl (g c)), h1) else none
  | none => none
def dFx (L : List Str) (f : Str) (a : DE D) : DE D := fun env hp => bE (a env hp) fun x h1 => match x with
  | .exf c f' y => if f' = f ∧ c ∈ L then some (.val y, h1) else none
  | _ => none
section
variable {X : Cx} {W : WX} {e : Expr} {da : DE D} {x fld qual : Str} {C fI cc : Addr} {p pos kp : Pos} {k : Nat} {L : List Str}
theorem me_exn (q : PySem.W.excIn X.K C He.veBase "ValueError.__new__" = true) (at_ : PySem.W.nsIn X.K mainGlobals x = some (some (.ref C))) (gC : X.mg x = some (.ref C)) (kC : PySem.W.keepIn X.K (.ref C) = true) (hg : Gl X x) (he : ME X W e da)
    (hs : starEach [e] X.env = (false, eval e X.env) :: starEach [] X.env := by rfl) (hdb : (x == ("__debug__" : Str)) = false := by decide) : ME X W (.Call (.Name x p) [e] [] pos) (dExn x da) := by
  refine (pe_exc1 F.excBase_ValueError q gC kC hg he hs hdb).weak fun σ H Q h => ?_
  obtain ⟨env, hp, m, s, r, hp', e0, p⟩ := h
  refine toR_step s e0 p fun y hp1 e1 v H1 m1 E1 s1 rv p1 => ?_
  cases e1
  exact fun a ha => p1 _ _ m1 (.laid ha) (s1.ob.laid ha) (.exn at_ upd_same (s1.ob.free ha))
theorem sup_weak {σ : St} {H : Hp} {Q : VK} (at_ : PySem.W.nsIn X.K mainGlobals x = some (some (.ref C))) (h : toR X.K X.mg W (RD X.K) (dExf x fld da) σ H Q) : tSup C fld (toR X.K X.mg W (RD X.K) da) σ H Q := by
  obtain ⟨env, hp, m, s, r, hp', e0, p⟩ := h
  refine toR_step s e0 p fun y hp1 e1 v H1 m1 E1 s1 rv p1 => ?_
  cases e1
  intro a d ha hd hda
  have ha' : upd H1 d (exd d [(fld, v)]) a = none := by rw [upd_ne (Ne.symm hda)]; exact ha
  have E2 : Ext X.K H1 m1 (upd (upd H1 d (exd d [(fld, v)])) a (exo a C (some d))) m1 := (Ext.laid hd).trans (Ext.laid ha')
  refine p1 _ _ m1 E2 ((s1.ob.laid hd).laid ha') (.exf at_ upd_same ?_ (s1.ob.free ha) (s1.ob.free hd) (rv.mono E2))
  rw [upd_ne hda, upd_same]
theorem me_sup (T : SupT X.prog.main.file X.K C fI cc qual fld) (TB : SupBind fld) (hr : Room k X.A) (htop : (X.prog.main.scope.names.lookup ("super" : Str)).isSome = false) (mgs : X.mg "super" = none) (at_ : PySem.W.nsIn X.K mainGlobals x = some (some (.ref C))) (gC : X.mg x = some (.ref C)) (kC : PySem.W.keepIn X.K (.ref C) = true) (hg : Gl X x)
    (he : ME X W e da) (hs : starEach [e] X.env = (false, eval e X.env) :: starEach [] X.env := by rfl) (hpl : (backTo pos (starEach [] X.env)).any (·.1) = false := by rfl) (hdb : (x == ("__debug__" : Str)) = false := by decide) :
    ME X W (.Call (.Name x p) [e] [] pos) (dExf x fld da) := (pe_sup T TB hr htop mgs gC kC hg he hs hpl hdb).weak fun _ _ _ h => sup_weak at_ h
theorem me_supK (T : SupT X.prog.main.file X.K C fI cc qual fld) (TB : SupBind fld) (hr : Room k X.A) (htop : (X.prog.main.scope.names.lookup ("super" : Str)).isSome = false) (mgs : X.mg "super" = none) (at_ : PySem.W.nsIn X.K mainGlobals x = some (some (.ref C))) (gC : X.mg x = some (.ref C)) (kC : PySem.W.keepIn X.K (.ref C) = true) (hg : Gl X x) (he : ME X W e da)
    (hall : (backToKw pos (keywordEach [⟨some fld, e, kp⟩] X.env)).all (·.1.isSome) = true := by rfl) (hks : (backToKw pos (keywordEach [⟨some fld, e, kp⟩] X.env)).filterMap (·.1) = [fld] := by rfl) (hdb : (x == ("__debug__" : Str)) = false := by decide)
    (hpl : ((backTo pos (starEach [] X.env)).any (·.1) || (backToKw pos (keywordEach [⟨some fld, e, kp⟩] X.env)).any (·.1.isNone)) = false := by rfl) :
    ME X W (.Call (.Name x p) [] [⟨some fld, e, kp⟩] pos) (dExf x fld da) := (pe_supK T TB hr htop mgs gC kC hg he hall hks hdb hpl).weak fun _ _ _ h => sup_weak at_ h
/-- the classes by their names -/
def XcL (K : PySem.W.Frag) (L : List Str) : Prop := ∀ c ∈ L, ∀ C, PySem.W.nsIn K mainGlobals c = some (some (.ref C)) → XcC K C
theorem exn_at {K : PySem.W.Frag} {m : Ma} {H : Hp} {y : D} {v : V} {c : Str} (h : DV K m H y v) (e : clsOf y = some c) : ∃ a C, v = .ref a ∧ PySem.W.nsIn K mainGlobals c = some (some (.ref C)) ∧ (H a = some (ExO (.ref C) a) ∨ ∃ d fs, H a = some (exo a C (some d)) ∧ H d = some (exd d fs)) := by
  cases h with
  | exn g h f => cases e; exact ⟨_, _, rfl, g, .inl h⟩
  | exf g h k f f' t => cases e; exact ⟨_, _, rfl, g, .inr ⟨_, _, h, k⟩⟩
  | _ => cases e
theorem me_isX {c : Expr} {cv : Value} {vc : V} {g : Str → Bool} (T : XcL X.K L) (hk : ∀ y ∈ L, ∀ C, PySem.W.nsIn X.K mainGlobals y = some (some (.ref C)) → PySem.W.kitOne X.K (.ref C) cv = some (g y)) (hcv : ∀ u, RelV vc u → u = cv)
    (hg : Gl X "isinstance") (hm : X.mg "isinstance" = none) (hv : bootBuiltins "isinstance" = some (.builtin "isinstance")) (ha : ME X W e da) (hc : PE X c (tC vc))
    (hs : starEach [e, c] X.env = (false, eval e X.env) :: starEach [c] X.env := by rfl) (hs2 : starEach [c] X.env = (false, eval c X.env) :: starEach [] X.env := by rfl) (hpl : (backTo pos (starEach [c] X.env)).any (·.1) = false := by rfl) :
    ME X W (.Call (.Name "isinstance" p) [e, c] [] pos) (dIsX L g da) := by
  refine PE.weak (t := tCB (rIsX X.K) (tCons (toR X.K X.mg W (RD X.K) da) (tCons (tC vc) tNil))) ?_ fun σ H Q h => ?_
  · first
      | exact pe_callB call_isX hg hm hv (pa_cons ha (pa_cons hc pa_nil hs2) hs) (by decide) (by decide) hs hpl
      | exact pe_callB call_isX hg hm hv (pa_cons ha (pa_cons hc pa_nil hs2) hs) (by decide) (by decide) hs
  · obtain ⟨env, hp, m, s, r, hp', e0, p⟩ := h
    refine toR_step s e0 p fun y hp1 e1 v H1 m1 E1 s1 rv p1 => ?_
    split at e1
    · rename_i cy hcy
      split at e1
      · rename_i hL
        cases e1
        obtain ⟨a, C, rfl, at_, hh⟩ := exn_at rv hcy
        exact ⟨a, C, vc, cv, _, rfl, hh, T _ hL _ at_, hcv, hk _ hL _ at_, p1 _ _ _ .refl s1.ob (.bl _)⟩
      · cases e1
    · cases e1
theorem me_fx {f : Str} (T : XcL X.K L) (hno : ∀ y ∈ L, ∀ C, PySem.W.nsIn X.K mainGlobals y = some (some (.ref C)) → PySem.W.findIn X.K (.ref C) f = some none) (he : ME X W e da) (hb : attributeBase e f X.env (eval e X.env) = eval e X.env := by rfl) :
    ME X W (.Attribute e f pos) (dFx L f da) := by
  refine (pe_fx he hb).weak fun σ H Q h => ?_
  obtain ⟨env, hp, m, s, r, hp', e0, p⟩ := h
  refine toR_step s e0 p fun y hp1 e1 v H1 m1 E1 s1 rv p1 => ?_
  split at e1
  · split at e1
    · rename_i hh
      obtain ⟨rfl, hL⟩ := hh
      cases e1
      cases rv with
      | exf g h k f f' t => exact ⟨_, _, _, _, rfl, h, k, T _ hL _ g, hno _ hL _ g, p1 _ _ _ .refl s1.ob t⟩
    · cases e1
  · cases e1
end
end MP
end

section
set_option maxHeartbeats 2000000
/-! MpGen: the rules as the printed terms name them. -/
namespace MP
open PySem PySem.Spec L2
section
variable {X : Cx} {W : WX} {a b c e : Expr} {es : List Expr} {da db dc : DE D} {das : DE (List D)} {pos p : Pos} {n : Nat} {x : Str}
theorem gV (i : Nat) (hN : X.N[i]? = some x := by rfl) (hv : Vis X.env.scope x := by first | exact Or.inl rfl | exact Or.inr (Or.inl rfl) | exact Or.inr (Or.inr rfl)) (hd : (x == ("__debug__" : Str)) = false := by decide) (hcd : (x == ("__classdict__" : Str)) = false := by decide) :
    ME X W (.Name x pos) (dVar i) := me_var hN hv hd hcd
theorem gC1 (h : ME X W e da) (hs : MA X W es das) (hst : starEach (e :: es) X.env = (false, eval e X.env) :: starEach es X.env := by rfl) : MA X W (e :: es) (aCons da das) := ma_cons h hs hst
theorem gCmp {o : CmpOp} {f : F2} (hf : OpR X (compareOp o) (rF X.K f)) (ha : ME X W a da) (hb : ME X W b db) (hm : behindInMarks o b = false := by first | exact nomark _ | rfl) : ME X W (.Compare a [o] [b] pos) (dBin f da db) := me_cmp hf ha hb hm
theorem gTc {o : CmpOp} {f : F2B} (hf : OpR X (compareOp o) (rF X.K (bl2 f))) (ha : ME X W a da) (hb : ME X W b db) (hm : behindInMarks o b = false := by first | exact nomark _ | rfl) : MT X W (.Compare a [o] [b] pos) (tCmpD f da db) := mt_cmp hf ha hb hm
theorem gCh {o o' : CmpOp} {f g : F2B} (hf : OpR X (compareOp o) (rF X.K (bl2 f))) (hg : OpR X (compareOp o') (rF X.K (bl2 g))) (ha : ME X W a da) (hb : ME X W b db) (hc : ME X W c dc) (hm : behindInMarks o' c = false := by first | exact nomark _ | rfl) : ME X W (.Compare a [o, o'] [b, c] pos) (dChain f g da db dc) := me_chain hf hg ha hb hc hm
theorem gTh {o o' : CmpOp} {f g : F2B} (hf : OpR X (compareOp o) (rF X.K (bl2 f))) (hg : OpR X (compareOp o') (rF X.K (bl2 g))) (ha : ME X W a da) (hb : ME X W b db) (hc : ME X W c dc) (hm : behindInMarks o' c = false := by first | exact nomark _ | rfl) : MT X W (.Compare a [o, o'] [b, c] pos) (tChainD f g da db dc) := mt_chain hf hg ha hb hc hm
theorem gTv (h : ME X W a da) (he : ∀ whole, isTrue a X.env whole = (do let v ← whole; standAt a.pos; holding [v] (truthy v)) := by intro _; rfl) : MT X W a (tVal da) := mt_val h he
theorem gIx (hr : Room n X.A) (ha : ME X W a da) (hb : ME X W b db) (hs : PlainIx b := by exact fun _ _ => rfl) : ME X W (.Subscript a b pos) (dBin ixD da db) := me_ix hr ha hb hs
/-- a def that may be called -/
structure Cal (P : Program) (w : World) (K : PySem.W.Frag) (mg : Str → Option Value) (base : Heap) (k : Nat) (x : Str) (ps : List Str) (g : Sem1) : Prop where
  at_ : mg x = some (.ref (He.ga K x))
  keep : PySem.W.keepIn K (.ref (He.ga K x)) = true
  fn : ∃ fd, FnOk P w K mg base (L2.CX P w) k (He.ga K x) fd ps (spF K mg ps.length g) ∧ Binds K fd ps []
theorem gCall {k : Nat} {ps : List Str} {g : Sem1} (C : Cal X.prog X.w X.K X.mg X.base k x ps g) (hr : Room k X.A) (tk : Takes X W) (ha : MA X W (e :: es) das) (hg : Gl X x := by rfl) (hdb : (x == ("__debug__" : Str)) = false := by decide)
    (he : starEach (e :: es) X.env = (false, eval e X.env) :: starEach es X.env := by rfl) (hpl : (backTo pos (starEach es X.env)).any (·.1) = false := by rfl) (hn : ps.length = n := by rfl) : ME X W (.Call (.Name x p) (e :: es) [] pos) (dCall n g das) := by
  obtain ⟨fd, F, hb⟩ := C.fn
  subst hn
  exact me_call F hr hg C.at_ C.keep hb tk ha hdb he hpl
def dCall0 (g : Sem1) : DE D := fun _ hp => match g [] hp with
  | some (.val d, h) => some (.val d, h)
  | _ => none
theorem gCall0 {k : Nat} {g : Sem1} (C : Cal X.prog X.w X.K X.mg X.base k x [] g) (hr : Room k X.A) (hg : Gl X x := by rfl) (hdb : (x == ("__debug__" : Str)) = false := by decide) : ME X W (.Call (.Name x p) [] [] pos) (dCall0 g) := by
  obtain ⟨fd, F, hb⟩ := C.fn
  refine (pe_call0 F hr hg C.at_ C.keep hb .nil passL hdb).weak fun σ H Q h => ?_
  obtain ⟨env, hp, m, s, r, hp', e, p⟩ := h
  unfold dCall0 at e
  split at e
  · rename_i d h1 hd
    cases e
    exact ⟨[], hp, m, .val d, _, rfl, .nil, s.ob, hd, p⟩
  · cases e
theorem gBlt {id : String} {f : FC} (hc : CallR X (.builtin id) (rCF X.K f)) (hm : X.mg x = none) (hv : bootBuiltins x = some (.builtin id)) (ha : MA X W (e :: es) das) (hg : Gl X x := by rfl) (hn : x ≠ "__name__" := by decide) (hdb : (x == ("__debug__" : Str)) = false := by decide)
    (hs : starEach (e :: es) X.env = (false, eval e X.env) :: starEach es X.env := by rfl) (hpl : (backTo pos (starEach es X.env)).any (·.1) = false := by rfl) : ME X W (.Call (.Name x p) (e :: es) [] pos) (dCB f das) := me_callB hc hg hm hv ha hn hdb hs hpl
theorem gTy {T : String} {f : FC} (hc : CallR X (.type T) (rCF X.K f)) (hm : X.mg x = none) (hv : bootBuiltins x = some (.type T)) (ha : MA X W (e :: es) das) (hg : Gl X x := by rfl) (hn : x ≠ "__name__" := by decide) (hdb : (x == ("__debug__" : Str)) = false := by decide)
    (hs : starEach (e :: es) X.env = (false, eval e X.env) :: starEach es X.env := by rfl) (hpl : (backTo pos (starEach es X.env)).any (·.1) = false := by rfl) : ME X W (.Call (.Name x p) (e :: es) [] pos) (dCB f das) := me_callTy hc hg hm hv ha hn hdb hs hpl
theorem gIsA {k : Cl} (hm : X.mg "isinstance" = none) (hmc : X.mg x = none) (hv : bootBuiltins x = some (.type k.name)) (ha : ME X W a da) (hg : Gl X "isinstance" := by rfl) (hgc : Gl X x := by rfl) (hn : x ≠ "__name__" := by decide) (hd : (x == ("__debug__" : Str)) = false := by decide)
    (hs : starEach [a, .Name x p] X.env = (false, eval a X.env) :: starEach [.Name x p] X.env := by rfl) (hs2 : starEach [.Name x p] X.env = (false, eval (.Name x p) X.env) :: starEach [] X.env := by rfl) (hpl : (backTo pos (starEach [.Name x p] X.env)).any (·.1) = false := by rfl) {q : Pos} :
    ME X W (.Call (.Name "isinstance" q) [a, .Name x p] [] pos) (dIsA k da) :=
  me_isA hg hm (by decide +kernel) ha (pe_bltn hgc hmc hv rfl hn hd) hs hs2 hpl
/-! ### statements -/
variable {body orelse rest : List Stmt} {st : Stmt} {de : DE D} {t : TgD} {ws : List Nat} {A B : DS} {i : Nat}
theorem gSet (i : Nat) (hN : X.N.Nodup) (he : ME X W e de) {p' : Pos} (hi : X.N[i]? = some x := by rfl) (hx : Loc X.env.scope x := by first | exact Or.inl rfl | exact Or.inr rfl) (hs : swapsWith e (some (.Name x p')) pos.line X.env = pure false := by rfl)
    (hf : X.fn x = true ∨ X.env.scope.names.lookup x = some .local := by first | exact Or.inl rfl | exact Or.inr rfl) : MS X W (.Assign [.Name x p'] e pos) (dAsg de (tgName i)) := ms_set hN hi hx he hs hf
theorem gAsg {tg : Expr} (he : ME X W e de) (hg : MG X ws tg t) (hs : swapsWithSole [tg] e pos.line X.env = pure false := by rfl) (hw : swappedStores [tg] e X.env = pure none := by rfl) (h1 : (assignEach [tg] X.env).map (·.2) = [assign tg X.env] := by rfl) : MS X W (.Assign [tg] e pos) (dAsg de t) := ms_asg he hg hs hw h1
theorem gN (i : Nat) (hN : X.N.Nodup) (hi : X.N[i]? = some x := by rfl) (hx : Loc X.env.scope x := by first | exact Or.inl rfl | exact Or.inr rfl) (hf : X.fn x = true ∨ X.env.scope.names.lookup x = some .local := by first | exact Or.inl rfl | exact Or.inr rfl) : MG X [i] (.Name x pos) (tgName i) := mg_name hN hi hx hf
theorem gGc {us : List Nat} {u : TgsD} (h1 : MG X ws e t) (h2 : MGs X us es u) (hs : (assignEach (e :: es) X.env).map (·.2) = assign e X.env :: (assignEach es X.env).map (·.2) := by rfl) : MGs X (ws ++ us) (e :: es) (tgCons t u) := mgs_cons h1 h2 hs
theorem gGt {k n : Nat} {u : TgsD} (hc : X.calm = true) (h : MGs X ws es u) (hn : (assignEach es X.env).length = n := by rfl) (hst : (assignEach es X.env).findIdx? (·.1) = none := by rfl) : MG X ws (.Tuple es k pos) (tgTup n u) := mg_tup hc h hn hst
theorem gGs {o : Expr} {dr di : DE D} (hr : Room n X.A) (ho : ME X WN o dr) (hi : ME X WN e di) (ha : ∀ v, assign (.Subscript o e pos) X.env v = (do
      let ov ← holding [v] (eval o X.env)
      let iv ← holding [v, ov] (eval e X.env)
      standAt pos
      holding [v, ov, iv] (setItem ov iv v)
      release [v, ov, iv] []) := by intro _; rfl) : MG X [] (.Subscript o e pos) (tgSub dr di) := mg_sub hr ho hi ha
theorem gPar (i j : Nat) {x y : Str} {px py pt : Pos} {kt k2 pt2} (hc : X.calm = true) (hN : X.N.Nodup) (ha : MA X W [a, b] das) (hi : X.N[i]? = some x := by rfl) (hj : X.N[j]? = some y := by rfl) (hij : i ≠ j := by decide) (hx : X.env.scope.names.lookup x = some .local := by rfl) (hy : X.env.scope.names.lookup y = some .local := by rfl)
    (hw : swappedStores [.Tuple [.Name x px, .Name y py] kt pt] (.Tuple [a, b] k2 pt2) X.env = pure (some [x, y]) := by rfl) (hs : swapsWithSole [.Tuple [.Name x px, .Name y py] kt pt] (.Tuple [a, b] k2 pt2) pos.line X.env = pure false := by rfl) :
    MS X W (.Assign [.Tuple [.Name x px, .Name y py] kt pt] (.Tuple [a, b] k2 pt2) pos) (dAsg2 i j das) := ms_par hc hN hi hj hij hx hy ha hw hs
theorem gPar3 (i j l : Nat) {x y z : Str} {px py pz pt : Pos} {kt k2 pt2} (hc : X.calm = true) (hN : X.N.Nodup) (ha : MA X W [a, b, c] das) (hi : X.N[i]? = some x := by rfl) (hj : X.N[j]? = some y := by rfl) (hl : X.N[l]? = some z := by rfl) (hij : i ≠ j := by decide) (hil : i ≠ l := by decide) (hjl : j ≠ l := by decide)
    (hx : X.env.scope.names.lookup x = some .local := by rfl) (hy : X.env.scope.names.lookup y = some .local := by rfl) (hz : X.env.scope.names.lookup z = some .local := by rfl)
    (hw : swappedStores [.Tuple [.Name x px, .Name y py, .Name z pz] kt pt] (.Tuple [a, b, c] k2 pt2) X.env = pure (some [x, y, z]) := by rfl) (hs : swapsWithSole [.Tuple [.Name x px, .Name y py, .Name z pz] kt pt] (.Tuple [a, b, c] k2 pt2) pos.line X.env = pure false := by rfl) :
    MS X W (.Assign [.Tuple [.Name x px, .Name y py, .Name z pz] kt pt] (.Tuple [a, b, c] k2 pt2) pos) (dAsg3 i j l das) := ms_par3 hc hN hi hj hl hij hil hjl hx hy hz ha hw hs
theorem gAug (i : Nat) {op : Operator} {f : F2} {p' : Pos} (hN : X.N.Nodup) (ho : PIp X op (rF X.K f)) (he : ME X W e de) (hi : X.N[i]? = some x := by rfl) (hx : Loc X.env.scope x := by first | exact Or.inl rfl | exact Or.inr rfl)
    (hf : X.fn x = true ∨ X.env.scope.names.lookup x = some .local := by first | exact Or.inl rfl | exact Or.inr rfl) : MS X W (.AugAssign (.Name x p') op e pos) (dAug i f de) := ms_aug hN hi hx he ho hf
theorem gEx (he : ME X W e de) (hs : swapsWith e none pos.line X.env = pure false := by rfl) : MS X W (.Expr e pos) (dDrop de) := ms_expr he hs
theorem gFor {tg iter : Expr} {di : DE Src} (hpo : PassesOwn (model X.prog X.w) X.A X.env X.xe) (hc : X.calm = true) (hi : MI X W tg iter di) (hg : MG X ws tg t) (hb : MSs X W body A) (hs : ∀ x, foldedSetIterable iter X.env x = pure x := by intro _; rfl) : MS X W (.For tg iter body [] pos) (dFor di t A) := ms_for hpo hc hi hg hb hs
theorem gApp {dr : DE D} {o : Expr} {apos cpos : Pos} (ho : ME X W o dr) (ha : MA X W [e] das) (hbase : attributeBase o "append" X.env (eval o X.env) = eval o X.env := by rfl)
    (hfew : ((backTo cpos (starEach [e] X.env)).all (fun x => !x.1) && (backToKw cpos (keywordEach [] X.env)).all (fun x => x.1.isSome) && decide ([e].length + ([] : List Keyword).length + (if ([] : List Keyword).isEmpty then 0 else 1) < 30)) = true := by rfl)
    (hline : (apos.endLine == cpos.line) = true := by rfl) (hs : starEach [e] X.env = (false, eval e X.env) :: starEach [] X.env := by rfl) (hplain : (backTo cpos (starEach [] X.env)).any (·.1) = false := by rfl) :
    ME X W (.Call (.Attribute o "append" apos) [e] [] cpos) (dM .list appendM dr das) := me_m F.plainAttrs_list F.slot_list_append F.type_list_append mt_appendF ho ha hbase hfew hline hs hplain
theorem gPop {dr : DE D} {o : Expr} {apos cpos : Pos} (ho : ME X W o dr) (ha : MA X W [e] das) (hbase : attributeBase o "pop" X.env (eval o X.env) = eval o X.env := by rfl)
    (hfew : ((backTo cpos (starEach [e] X.env)).all (fun x => !x.1) && (backToKw cpos (keywordEach [] X.env)).all (fun x => x.1.isSome) && decide ([e].length + ([] : List Keyword).length + (if ([] : List Keyword).isEmpty then 0 else 1) < 30)) = true := by rfl)
    (hline : (apos.endLine == cpos.line) = true := by rfl) (hs : starEach [e] X.env = (false, eval e X.env) :: starEach [] X.env := by rfl) (hplain : (backTo cpos (starEach [] X.env)).any (·.1) = false := by rfl) :
    ME X W (.Call (.Attribute o "pop" apos) [e] [] cpos) (dM .list popM dr das) := me_m F.plainAttrs_list F.slot_list_pop F.type_list_pop mt_popF ho ha hbase hfew hline hs hplain
theorem gPop0 {dr : DE D} {o : Expr} {apos cpos : Pos} (ho : ME X W o dr) (hbase : attributeBase o "pop" X.env (eval o X.env) = eval o X.env := by rfl) (hline : (apos.endLine == cpos.line) = true := by rfl) :
    ME X W (.Call (.Attribute o "pop" apos) [] [] cpos) (dM0 .list popM dr) := me_m0 F.plainAttrs_list F.slot_list_pop F.type_list_pop mt_popF ho hbase hline
end
end MP
end

section
set_option maxHeartbeats 2000000
/-! MpHead: what the top's run tells of the defs and classes. -/
namespace MP
open PySem PySem.Spec L2
open PySem.HandSPX (refsVE)

def asM (g : Addr → Option Obj) : Nat → List Addr
  | 0 => [mainGlobals, cStatics]
  | n + 1 => He.growD g (asM g n)
abbrev FnZ : Type := Option (Str × Str × Arguments × FuncBody × Scope × Addr × Value × Addr)
def fnZ (K : PySem.W.Frag) (c : Str) : FnZ := match K.lookup (He.fAd K (c, some "__init__")) with
  | some ⟨_, _, .func fd, _⟩ => some (fd.name, fd.qualname, fd.params, fd.body, fd.scope, fd.globals, fd.defaults, fd.builtins)
  | _ => none
/-- a class whose errors keep a field -/
structure InitD where
  cls : Str
  fld : Str
  qual : Str
  txt : Str
  z : SupPos
def InitD.val (d : InitD) : FnZ := some ("__init__", d.qual, supArgs d.fld d.z, .stmts (supBody d.fld d.txt d.z), supScope d.fld, mainGlobals, .none, builtinsNs)
abbrev AlM : Type := He.AlD × List FnZ × Bool
def obsM (n : Nat) (fa : List He.Fa) (fn : List He.DefD) (zs : List InitD) (ex : PySem.W.Frag → Bool) (K : PySem.W.Frag) : AlM := (He.obsD fa fn K, zs.map fun z => fnZ K z.cls, ex K)
def valM (fn : List He.DefD) (zs : List InitD) : AlM := (He.valD fn, zs.map InitD.val, true)
def obsMG (n : Nat) (fa : List He.Fa) (fn : List He.DefD) (zs : List InitD) (ex : PySem.W.Frag → Bool) (g : Addr → Option Obj) : AlM := obsM n fa fn zs ex (He.frG g (asM g n))
def SaysM (fa : List He.Fa) (fn : List He.DefD) (zs : List InitD) (ex : PySem.W.Frag → Bool) (K : PySem.W.Frag) : Prop := obsM 0 fa fn zs ex K = valM fn zs
def hookM (n : Nat) (fa : List He.Fa) (fn : List He.DefD) (zs : List InitD) (ex : PySem.W.Frag → Bool) : PySem.W.Hook where
  α := AlM
  obs := fun s => obsMG n fa fn zs ex s.heap.get?
  val := fun _ => valM fn zs
  says := fun _ h => ∃ K : PySem.W.Frag, K.In h ∧ SaysM fa fn zs ex K
  of := fun _ _ e => ⟨_, He.frG_in, e⟩
  keeps := fun _ _ _ ⟨K, hK, c⟩ k => ⟨K, PySem.W.Frag.In.keeps hK k, c⟩
theorem obsMG_eq {n : Nat} {fa : List He.Fa} {fn : List He.DefD} {zs : List InitD} {ex : PySem.W.Frag → Bool} {g : Addr → Option Obj} {s : Shared} (h : ∀ a, g a = s.heap.get? a) : obsMG n fa fn zs ex g = (hookM n fa fn zs ex).obs s := by
  have e : g = s.heap.get? := funext h
  rw [e]; rfl
section
variable {fa : List He.Fa} {fn : List He.DefD} {zs : List InitD} {ex : PySem.W.Frag → Bool} {K : PySem.W.Frag}
theorem SaysM.d (c : SaysM fa fn zs ex K) : He.SaysD fa fn K := congrArg (fun z : AlM => z.1) c
theorem SaysM.x (c : SaysM fa fn zs ex K) : ex K = true := congrArg (fun z : AlM => z.2.2) c
theorem SaysM.z (c : SaysM fa fn zs ex K) {d : InitD} (h : d ∈ zs) : fnZ K d.cls = d.val := by
  have e : zs.map (fun z => fnZ K z.cls) = zs.map InitD.val := congrArg (fun z : AlM => z.2.1) c
  exact List.map_inj_left.mp e d h
end
/-! ### classes of errors -/
def eqB2 (a : Option (Option Value)) (b : Value) : Bool := decide (a = some (some b))
def xcB (K : PySem.W.Frag) (c : Str) : Bool := (PySem.W.clsIn K (He.ga K c)).isSome && (eqB2 (PySem.W.findIn K (.ref (He.ga K c)) "__getattribute__") (.builtin "BaseException.__getattribute__") && (decide (PySem.W.findIn K (.ref (He.ga K c)) "__getattr__" = some none) &&
  (decide (PySem.W.subIn K (.ref (He.ga K c)) (.type "BaseException") = some true) && (eqB2 (PySem.W.findIn K (.ref (He.ga K c)) "__class__") (.builtin "object.__class__") && (eqB2 (PySem.W.specialIn K (.builtin "object.__class__") "__get__") (.builtin "getset_descriptor.__get__") &&
  (decide (PySem.W.takesIn K (.builtin "object.__class__") = some true) && (decide (PySem.W.mroIn K (He.ga K c) (.type "object") = some true) && PySem.W.hasDictIn K (He.ga K c))))))))
theorem ga_of {K : PySem.W.Frag} {c : Str} {C : Addr} (h : PySem.W.nsIn K mainGlobals c = some (some (.ref C))) : He.ga K c = C := by
  unfold He.ga
  rw [h]
theorem xcL_of {K : PySem.W.Frag} {L : List Str} (h : L.all (xcB K) = true) : XcL K L := fun c hc C hC => by
  have q := List.all_eq_true.mp h c hc
  unfold xcB at q
  rw [ga_of hC] at q
  simp only [Bool.and_eq_true, decide_eq_true_eq, eqB2] at q
  obtain ⟨h1, h2, h3, h4, h5, h6, h7, h8, h9⟩ := q
  exact ⟨h1, h2, h3, h4, h5, h6, h7, h8, h9⟩
/-- isinstance against the class y -/
def kitL (K : PySem.W.Frag) (L : List Str) (cv : Value) (g : Str → Bool) : Bool := L.all fun c => decide (PySem.W.kitOne K (.ref (He.ga K c)) cv = some (g c))
theorem kitL_of {K : PySem.W.Frag} {L : List Str} {cv : Value} {g : Str → Bool} (h : kitL K L cv g = true) : ∀ y ∈ L, ∀ C, PySem.W.nsIn K mainGlobals y = some (some (.ref C)) → PySem.W.kitOne K (.ref C) cv = some (g y) := fun c hc C hC => by
  have q := List.all_eq_true.mp h c hc
  rw [ga_of hC] at q
  exact of_decide_eq_true q
def noatL (K : PySem.W.Frag) (L : List Str) (f : Str) : Bool := L.all fun c => decide (PySem.W.findIn K (.ref (He.ga K c)) f = some none)
theorem noatL_of {K : PySem.W.Frag} {L : List Str} {f : Str} (h : noatL K L f = true) : ∀ y ∈ L, ∀ C, PySem.W.nsIn K mainGlobals y = some (some (.ref C)) → PySem.W.findIn K (.ref C) f = some none := fun c hc C hC => by
  have q := List.all_eq_true.mp h c hc
  rw [ga_of hC] at q
  exact of_decide_eq_true q
/-- a plain error class -/
def exnB (K : PySem.W.Frag) (c : Str) : Bool := eqB2 (PySem.W.nsIn K mainGlobals c) (.ref (He.ga K c)) && (PySem.W.excIn K (He.ga K c) He.veBase "ValueError.__new__" && PySem.W.keepIn K (.ref (He.ga K c)))
/-- one that keeps a field -/
def supB (K : PySem.W.Frag) (file c fld : Str) : Bool := eqB2 (PySem.W.nsIn K mainGlobals c) (.ref (He.ga K c)) && (PySem.W.keepIn K (.ref (He.ga K c)) && (PySem.W.excInitIn K (He.ga K c) He.veBase "ValueError.__new__" && ((match PySem.W.clsIn K (He.ga K c) with
    | some cd => refsVE cd.mro && cd.hasDict
    | none => false) &&
  (eqB2 (PySem.W.findIn K (.ref (He.ga K c)) "__setattr__") (.builtin "object.__setattr__") && (decide (PySem.W.findIn K (.ref (He.ga K c)) fld = some none) && (eqB2 (PySem.W.findIn K (.ref (He.ga K c)) "__init__") (.ref (He.ma K (He.ga K c) "__init__")) &&
  (decide (PySem.W.typeIn K (.ref (He.ma K (He.ga K c) "__init__")) = some (.type "function")) && (decide (PySem.W.nsIn K cStatics "thirdparty.any" = some none) && (eqB2 (PySem.W.ks_superIn K (He.ga K c) (He.ga K c) "__init__") (.builtin "ValueError.__init__") &&
  (decide (PySem.W.subIn K (.ref (He.ga K c)) (.type "ValueError") = some true) && (decide (PySem.W.mroIn K (He.ga K c) (.ref (He.ga K c)) = some true) && (match K.lookup (He.ma K (He.ga K c) "__init__") with
    | some ⟨_, _, .func fd, _⟩ => (match fd.closure, fd.code with
      | [(n, cc)], .ref cda => decide (n = "__class__") && (PySem.W.codeIn K (.ref cda) fd.qualname && ((match K.lookup cc with
          | some ⟨_, _, .cell (some (.ref D)), _⟩ => decide (D = He.ga K c)
          | _ => false) && (match K.lookup cda with
          | some ⟨_, _, .fields vs, _⟩ => (match (vs[2]? : Option Value) with
            | some (Value.str f _) => file == f
            | _ => false)
          | _ => false)))
      | _, _ => false)
    | _ => false))))))))))))
theorem supT_of {K : PySem.W.Frag} {file : Str} {d : InitD} (h : supB K file d.cls d.fld = true) (hz : fnZ K d.cls = d.val) (hl : SupLine d.fld d.txt d.z) (ok : d.fld ≠ "self" ∧ d.fld ≠ "__class__" ∧ d.fld ≠ "super" ∧ (d.fld == ("__debug__" : Str)) = false) :
    PySem.W.nsIn K mainGlobals d.cls = some (some (.ref (He.ga K d.cls))) ∧ PySem.W.keepIn K (.ref (He.ga K d.cls)) = true ∧ ∃ fI cc, SupT file K (He.ga K d.cls) fI cc d.qual d.fld := by
  unfold supB at h
  simp only [Bool.and_eq_true, decide_eq_true_eq, eqB2] at h
  obtain ⟨h1, h2, h3, h4, h5, h6, h7, h8, h9, h10, h11, h12, h13⟩ := h
  refine ⟨h1, h2, ?_⟩
  have hcd : ∃ cd, PySem.W.clsIn K (He.ga K d.cls) = some cd ∧ refsVE cd.mro = true ∧ cd.hasDict = true := by
    split at h4
    · rename_i cd q
      exact ⟨cd, q, (Bool.and_eq_true_iff.mp h4).1, (Bool.and_eq_true_iff.mp h4).2⟩
    · cases h4
  unfold fnZ at hz
  have ef : He.fAd K (d.cls, some "__init__") = He.ma K (He.ga K d.cls) "__init__" := rfl
  rw [ef] at hz
  cases q : K.lookup (He.ma K (He.ga K d.cls) "__init__") with
  | none => rw [q] at h13; cases h13
  | some o =>
    obtain ⟨oc, od, dt, osl⟩ := o
    rw [q] at h13 hz
    cases dt with
    | func fd =>
      obtain ⟨n1, n2, n3, n4, n5, n6, n7, n8, n9, n10, n11, n12, n13, n14, n15⟩ := fd
      have hz2 : (some (n1, n2, n3, n4, n5, n6, n8, n15) : FnZ) = (some (("__init__" : Str), d.qual, supArgs d.fld d.z, FuncBody.stmts (supBody d.fld d.txt d.z), supScope d.fld, mainGlobals, Value.none, builtinsNs) : FnZ) := hz
      simp only [Option.some.injEq, Prod.mk.injEq] at hz2
      obtain ⟨g1, g2, g3, g4, g5, g6, g7, g8⟩ := hz2
      subst g1 g2 g3 g4 g5 g6 g7 g8
      simp only at h13
      split at h13
      · rename_i n cc cda
        simp only [Bool.and_eq_true, decide_eq_true_eq] at h13
        obtain ⟨j1, j2, j3, j4⟩ := h13
        subst j1
        refine ⟨He.ma K (He.ga K d.cls) "__init__", cc, h3, hcd, h5, h6, h7, h8, h9, h10, h11, h12, ?_, ?_, ok⟩
        · split at j3
          · rename_i cl cld D csl kc
            have e : D = He.ga K d.cls := of_decide_eq_true j3
            subst e
            exact ⟨_, _, _, kc⟩
          · cases j3
        · split at j4
          · rename_i ccl cdd vs ccs kc
            split at j4
            · rename_i f tf kv
              exact ⟨oc, od, n9, n10, n11, n12, cda, n14, osl, d.txt, d.z, q, j2, ccl, cdd, vs, ccs, f, tf, kc, kv, j4, hl⟩
            · cases j4
          · cases j4
      · cases h13
    | _ => cases h13
theorem fn_okD {P : Program} {w : World} {K : PySem.W.Frag} {mg : Str → Option Value} {base : Heap} {N : List Str} {b : DS} {x qual : Str} {params : Arguments} {body : List Stmt} {scope : Scope} {f : Addr} {fd : FuncData} {ps : List Str} {k n : Nat} (F : FunD K x qual params body scope [] [] f fd) (S : FnScope N ps scope) (hn : n = ps.length)
    (bd : ∀ (cdv : Value) (A : Around) (outer : List Env) (s : Shared) (H : Hp) (E : XK), Room k (A.deeper (PyProof.Rows.envOfC qual scope s.heap.objs.size f cdv)) →
      MSs (cxOf (L2.CX P w) P w K mg base N qual scope f cdv A outer s H E) (fun c d _ H => E c d H) body b) : FnOk P w K mg base (L2.CX P w) (k + 1) f fd ps (spF K mg n (runFn N.length b)) := by
  refine F.ok S (fun vs H Q E h => ?_) (fun cdv A outer s H vs Q E hr h => ⟨_, bd cdv A outer s H E hr, run_body h⟩)
  obtain ⟨xs, hp, m, r, hp', hl, dv, _⟩ := h
  rw [← dv.length, hl, hn]
end MP
namespace MP
open PySem PySem.Spec L2
/-- what the top says of a plain error class; of one that keeps a field -/
structure ExnF (K : PySem.W.Frag) (mg : Str → Option Value) (c : Str) : Prop where
  at_ : PySem.W.nsIn K mainGlobals c = some (some (.ref (He.ga K c)))
  gC : mg c = some (.ref (He.ga K c))
  kC : PySem.W.keepIn K (.ref (He.ga K c)) = true
  q : PySem.W.excIn K (He.ga K c) He.veBase "ValueError.__new__" = true
structure SupF (file : Str) (K : PySem.W.Frag) (mg : Str → Option Value) (c fld qual : Str) : Prop where
  at_ : PySem.W.nsIn K mainGlobals c = some (some (.ref (He.ga K c)))
  gC : mg c = some (.ref (He.ga K c))
  kC : PySem.W.keepIn K (.ref (He.ga K c)) = true
  t : ∃ fI cc, SupT file K (He.ga K c) fI cc qual fld
theorem ExnF.of {K : PySem.W.Frag} {h : Heap} {mg : Str → Option Value} {c : Str} (X : K.In h) (G : h.Ns mainGlobals mg) (e : exnB K c = true) : ExnF K mg c := by
  unfold exnB eqB2 at e
  simp only [Bool.and_eq_true, decide_eq_true_eq] at e
  exact ⟨e.1, PySem.W.mg_of X G e.1, e.2.2, e.2.1⟩
theorem SupF.of {K : PySem.W.Frag} {h : Heap} {mg : Str → Option Value} {file : Str} {d : InitD} (X : K.In h) (G : h.Ns mainGlobals mg) (e : supB K file d.cls d.fld = true) (hz : fnZ K d.cls = d.val) (hl : SupLine d.fld d.txt d.z)
    (ok : d.fld ≠ "self" ∧ d.fld ≠ "__class__" ∧ d.fld ≠ "super" ∧ (d.fld == ("__debug__" : Str)) = false) : SupF file K mg d.cls d.fld d.qual := by
  obtain ⟨h1, h2, h3⟩ := supT_of e hz hl ok
  exact ⟨h1, PySem.W.mg_of X G h1, h2, h3⟩
section
variable {X : Cx} {W : WX} {e : Expr} {da : DE D} {x fld qual : Str} {p pos kp : Pos} {k : Nat} {L : List Str}
theorem gExn (E : ExnF X.K X.mg x) (he : ME X W e da) (hg : Gl X x := by rfl) (hs : starEach [e] X.env = (false, eval e X.env) :: starEach [] X.env := by rfl) (hdb : (x == ("__debug__" : Str)) = false := by decide) : ME X W (.Call (.Name x p) [e] [] pos) (dExn x da) := me_exn E.q E.at_ E.gC E.kC hg he hs hdb
theorem gSup (E : SupF X.prog.main.file X.K X.mg x fld qual) (TB : SupBind fld) (hr : Room k X.A) (mgs : X.mg "super" = none) (he : ME X W e da) (htop : (X.prog.main.scope.names.lookup ("super" : Str)).isSome = false := by kernel_rfl) (hg : Gl X x := by rfl)
    (hs : starEach [e] X.env = (false, eval e X.env) :: starEach [] X.env := by rfl) (hpl : (backTo pos (starEach [] X.env)).any (·.1) = false := by rfl) (hdb : (x == ("__debug__" : Str)) = false := by decide) : ME X W (.Call (.Name x p) [e] [] pos) (dExf x fld da) := by
  obtain ⟨fI, cc, T⟩ := E.t
  exact me_sup T TB hr htop mgs E.at_ E.gC E.kC hg he hs hpl hdb
theorem gSupK (E : SupF X.prog.main.file X.K X.mg x fld qual) (TB : SupBind fld) (hr : Room k X.A) (mgs : X.mg "super" = none) (he : ME X W e da) (htop : (X.prog.main.scope.names.lookup ("super" : Str)).isSome = false := by kernel_rfl) (hg : Gl X x := by rfl)
    (hall : (backToKw pos (keywordEach [⟨some fld, e, kp⟩] X.env)).all (·.1.isSome) = true := by rfl) (hks : (backToKw pos (keywordEach [⟨some fld, e, kp⟩] X.env)).filterMap (·.1) = [fld] := by rfl) (hdb : (x == ("__debug__" : Str)) = false := by decide)
    (hpl : ((backTo pos (starEach [] X.env)).any (·.1) || (backToKw pos (keywordEach [⟨some fld, e, kp⟩] X.env)).any (·.1.isNone)) = false := by rfl) : ME X W (.Call (.Name x p) [] [⟨some fld, e, kp⟩] pos) (dExf x fld da) := by
  obtain ⟨fI, cc, T⟩ := E.t
  exact me_supK T TB hr htop mgs E.at_ E.gC E.kC hg he hall hks hdb hpl
/-- isinstance(e, own class) -/
theorem gIsX {g : Str → Bool} {q : Pos} (T : XcL X.K L) (hk : kitL X.K L (.ref (He.ga X.K x)) g = true) (gC : X.mg x = some (.ref (He.ga X.K x))) (hm : X.mg "isinstance" = none) (ha : ME X W e da) (hg : Gl X "isinstance" := by rfl) (hgc : Gl X x := by rfl) (hd : (x == ("__debug__" : Str)) = false := by decide)
    (hs : starEach [e, .Name x p] X.env = (false, eval e X.env) :: starEach [.Name x p] X.env := by rfl) (hs2 : starEach [.Name x p] X.env = (false, eval (.Name x p) X.env) :: starEach [] X.env := by rfl) (hpl : (backTo pos (starEach [.Name x p] X.env)).any (·.1) = false := by rfl) :
    ME X W (.Call (.Name "isinstance" q) [e, .Name x p] [] pos) (dIsX L g da) :=
  me_isX (vc := .ref (He.ga X.K x)) T (kitL_of hk) (fun _ h => h) hg hm (by decide +kernel) ha (pe_glob hgc gC rfl hd) hs hs2 hpl
/-- isinstance(e, a built-in class) -/
theorem gIsV {g : Str → Bool} {q : Pos} {T0 : String} (T : XcL X.K L) (hk : kitL X.K L (.type T0) g = true) (hmc : X.mg x = none) (hv : bootBuiltins x = some (.type T0)) (hm : X.mg "isinstance" = none) (ha : ME X W e da) (hg : Gl X "isinstance" := by rfl) (hgc : Gl X x := by rfl) (hn : x ≠ "__name__" := by decide) (hd : (x == ("__debug__" : Str)) = false := by decide)
    (hs : starEach [e, .Name x p] X.env = (false, eval e X.env) :: starEach [.Name x p] X.env := by rfl) (hs2 : starEach [.Name x p] X.env = (false, eval (.Name x p) X.env) :: starEach [] X.env := by rfl) (hpl : (backTo pos (starEach [.Name x p] X.env)).any (·.1) = false := by rfl) :
    ME X W (.Call (.Name "isinstance" q) [e, .Name x p] [] pos) (dIsX L g da) :=
  me_isX (vc := .ty T0) T (kitL_of hk) (fun _ h => h) hg hm (by decide +kernel) ha (pe_bltn hgc hmc hv rfl hn hd) hs hs2 hpl
theorem gFx {f : Str} (T : XcL X.K L) (hno : noatL X.K L f = true) (he : ME X W e da) (hb : attributeBase e f X.env (eval e X.env) = eval e X.env := by rfl) : ME X W (.Attribute e f pos) (dFx L f da) := me_fx T (noatL_of hno) he hb
end
end MP
namespace MP
open PySem PySem.Spec L2
theorem fnOk_none {P : Program} {w : World} {K : PySem.W.Frag} {mg : Str → Option Value} {base : Heap} {CX : CXT} {k n : Nat} {f : Addr} {fd : FuncData} {ps : List Str} : FnOk P w K mg base CX k f fd ps (spF K mg n fun _ _ => none) :=
  ⟨fun vs H Q E ⟨_, _, _, _, _, _, _, _, e, _⟩ => (nomatch e), fun A outer s H args us vs Q E _ _ _ _ ⟨_, _, _, _, _, _, _, _, e, _⟩ => (nomatch e)⟩
/-- a def as the head tells it -/
structure DefF (K : PySem.W.Frag) (mg : Str → Option Value) (x : Str) (st : Stmt) (ps : List Str) : Prop where
  at_ : mg x = some (.ref (He.ga K x))
  fn : ∃ fd, FunD K x x (defArgs st) (defBody st) (defScope st) [] [] (He.ga K x) fd
  bind : ∀ (kV doc pm : Value) (an : Option Addr) (cdv ct : Value) (us : List Value), us.length = ps.length → bindArgs (PySem.W.fnOf x x (defArgs st) (defBody st) (defScope st) .none kV doc pm an cdv ct) ⟨us, []⟩ = pure (ps.zip us)
theorem DefF.cal {P : Program} {w : World} {K : PySem.W.Frag} {mg : Str → Option Value} {base : Heap} {k : Nat} {x : Str} {st : Stmt} {ps : List Str} {g : Sem1} (D : DefF K mg x st ps)
    (h : ∀ fd, FunD K x x (defArgs st) (defBody st) (defScope st) [] [] (He.ga K x) fd → FnOk P w K mg base (L2.CX P w) k (He.ga K x) fd ps (spF K mg ps.length g)) : Cal P w K mg base k x ps g := by
  obtain ⟨fd, F⟩ := D.fn
  exact ⟨D.at_, F.kp, fd, h fd F, F.bindsN D.bind⟩
/-- nothing that is raised leaves the law -/
theorem cx_no {P : Program} {w : World} (H : Hp) (s : Shared) (e : Value) (s' : Shared) : L2.CX P w [] H s (fun _ _ _ => False) e s' → False := fun h => by
  obtain ⟨_, _, _, _, _, _, _, _, _, _, _, _, z⟩ := h
  exact z
/-- the law's promise from its run -/
theorem law_sp {K : PySem.W.Frag} {mg : Str → Option Value} {H : Hp} {a : Addr} {ns : List Int} {g : Sem1} {hp' : AH} (hO : Only H) (hS : SqL K H a (ns.map V.int)) (e : g [.rls (ns.map .int)] [] = some (.val (.bl true), hp')) :
    spF K mg 1 g [.ref a] H (fun v _ => v = .bl true) fun _ _ _ => False := by
  have hf : ∀ b : Addr, Free ⟨[], fun _ => False⟩ b := fun b => ⟨fun l q => by simp at q, fun z => z⟩
  have hr : RL K ⟨[], fun _ => False⟩ H a (ns.map V.int) := RL.of (fun _ _ => hf _) (fun z => by
    rcases hO a with q | ⟨o, xs, q⟩
    · rw [q] at z; cases z
    · rw [q] at z; cases z) hS
  have hd : ∀ l : List Int, DVs K ⟨[], fun _ => False⟩ H (l.map .int) (l.map V.int) := fun l => by
    induction l with
    | nil => exact .nil
    | cons i r ih => exact .cons (.int i) ih
  refine ⟨[.rls (ns.map .int)], [], ⟨[], fun _ => False⟩, .val (.bl true), hp', rfl, .cons (.rls hr (hd ns)) .nil, ⟨rfl, fun a h => h.elim, fun l l' a h => by simp at h, fun l a h => by simp at h, fun l o h => by simp at h, fun l a h => by simp at h⟩, e, fun v H' m' E' o' d' => ?_⟩
  cases d'
  rfl
end MP
namespace MP
open PySem PySem.Spec L2
theorem fnOk_cx0 {P : Program} {w : World} {K : PySem.W.Frag} {mg : Str → Option Value} {base : Heap} {k : Nat} {f : Addr} {fd : FuncData} {ps : List Str} {sp : Sp} (F : FnOk P w K mg base (L2.CX P w) k f fd ps sp) :
    FnOk P w K mg base L2.CX0 k f fd ps (fun vs H Q _ => sp vs H Q fun _ _ _ => False) :=
  ⟨fun vs H Q E h => F.len _ _ _ _ h, fun A outer s H args us vs Q E hr he hb hv hs => codeAny_mono (F.run A outer s H args us vs Q _ hr he hb hv hs) fun r s' h => by
    cases r with
    | error e =>
      obtain ⟨_, _, _, _, _, _, _, _, _, _, _, _, z⟩ := h
      exact z.elim
    | ok fl => cases fl <;> exact h⟩
end MP
end

section
set_option maxHeartbeats 4000000
namespace K00
open PySem PySem.Spec L2 MP
abbrev prog : Program := PySem.Challenge.pw_waychosen_k00_errors
def top (i : Nat) : Stmt := prog.main.body.getD i (.Pass ⟨0, 0, 0, 0⟩)
def clsL : List Str := (["ChoiceError", "BadProgram", "BadName", "BadIndex", "BadBook", "BadOther", "Unlike", "BadWays", "BadClasses", "BadType", "BadTypes", "BadGoal", "BadMany", "BadGoals", "BadGivens", "BadRoad", "BadRoads", "BadTables", "BadShape", "BadGroup", "BadPlace", "BadMarks", "BadArgs", "BadWords", "HasClasses", "BadLimit", "TooGreat", "Endless", "NotEnding", "BadText", "NotChecked", "NotGood", "Untyped", "NotTyped", "NotJoined"] : List String).map Str.ofString
/-- what the top says -/
structure Fx (K : PySem.W.Frag) (mg : Str → Option Value) : Prop where
  z_ValueError : mg "ValueError" = none
  z_bool : mg "bool" = none
  z_int : mg "int" = none
  z_isinstance : mg "isinstance" = none
  z_len : mg "len" = none
  z_range : mg "range" = none
  z_str : mg "str" = none
  z_super : mg "super" = none
  z_tuple : mg "tuple" = none
  xc : XcL K clsL
  k_ValueError : kitL K clsL (.type "ValueError") (fun _ => true) = true
  k_ChoiceError : kitL K clsL (.ref (He.ga K "ChoiceError")) (fun _ => true) = true
  m_ChoiceError : mg "ChoiceError" = some (.ref (He.ga K "ChoiceError"))
  k_BadProgram : kitL K clsL (.ref (He.ga K "BadProgram")) (fun y => y == "BadProgram") = true
  m_BadProgram : mg "BadProgram" = some (.ref (He.ga K "BadProgram"))
  k_BadName : kitL K clsL (.ref (He.ga K "BadName")) (fun y => y == "BadName") = true
  m_BadName : mg "BadName" = some (.ref (He.ga K "BadName"))
  k_BadIndex : kitL K clsL (.ref (He.ga K "BadIndex")) (fun y => y == "BadIndex") = true
  m_BadIndex : mg "BadIndex" = some (.ref (He.ga K "BadIndex"))
  k_BadBook : kitL K clsL (.ref (He.ga K "BadBook")) (fun y => y == "BadBook") = true
  m_BadBook : mg "BadBook" = some (.ref (He.ga K "BadBook"))
  k_BadOther : kitL K clsL (.ref (He.ga K "BadOther")) (fun y => y == "BadOther") = true
  m_BadOther : mg "BadOther" = some (.ref (He.ga K "BadOther"))
  k_Unlike : kitL K clsL (.ref (He.ga K "Unlike")) (fun y => y == "Unlike") = true
  m_Unlike : mg "Unlike" = some (.ref (He.ga K "Unlike"))
  k_BadWays : kitL K clsL (.ref (He.ga K "BadWays")) (fun y => y == "BadWays") = true
  m_BadWays : mg "BadWays" = some (.ref (He.ga K "BadWays"))
  k_BadClasses : kitL K clsL (.ref (He.ga K "BadClasses")) (fun y => y == "BadClasses") = true
  m_BadClasses : mg "BadClasses" = some (.ref (He.ga K "BadClasses"))
  k_BadType : kitL K clsL (.ref (He.ga K "BadType")) (fun y => y == "BadType") = true
  m_BadType : mg "BadType" = some (.ref (He.ga K "BadType"))
  k_BadTypes : kitL K clsL (.ref (He.ga K "BadTypes")) (fun y => y == "BadTypes") = true
  m_BadTypes : mg "BadTypes" = some (.ref (He.ga K "BadTypes"))
  k_BadGoal : kitL K clsL (.ref (He.ga K "BadGoal")) (fun y => y == "BadGoal") = true
  m_BadGoal : mg "BadGoal" = some (.ref (He.ga K "BadGoal"))
  k_BadMany : kitL K clsL (.ref (He.ga K "BadMany")) (fun y => y == "BadMany") = true
  m_BadMany : mg "BadMany" = some (.ref (He.ga K "BadMany"))
  k_BadGoals : kitL K clsL (.ref (He.ga K "BadGoals")) (fun y => y == "BadGoals") = true
  m_BadGoals : mg "BadGoals" = some (.ref (He.ga K "BadGoals"))
  k_BadGivens : kitL K clsL (.ref (He.ga K "BadGivens")) (fun y => y == "BadGivens") = true
  m_BadGivens : mg "BadGivens" = some (.ref (He.ga K "BadGivens"))
  k_BadRoad : kitL K clsL (.ref (He.ga K "BadRoad")) (fun y => y == "BadRoad") = true
  m_BadRoad : mg "BadRoad" = some (.ref (He.ga K "BadRoad"))
  k_BadRoads : kitL K clsL (.ref (He.ga K "BadRoads")) (fun y => y == "BadRoads") = true
  m_BadRoads : mg "BadRoads" = some (.ref (He.ga K "BadRoads"))
  k_BadTables : kitL K clsL (.ref (He.ga K "BadTables")) (fun y => y == "BadTables") = true
  m_BadTables : mg "BadTables" = some (.ref (He.ga K "BadTables"))
  k_BadShape : kitL K clsL (.ref (He.ga K "BadShape")) (fun y => y == "BadShape") = true
  m_BadShape : mg "BadShape" = some (.ref (He.ga K "BadShape"))
  k_BadGroup : kitL K clsL (.ref (He.ga K "BadGroup")) (fun y => y == "BadGroup") = true
  m_BadGroup : mg "BadGroup" = some (.ref (He.ga K "BadGroup"))
  k_BadPlace : kitL K clsL (.ref (He.ga K "BadPlace")) (fun y => y == "BadPlace") = true
  m_BadPlace : mg "BadPlace" = some (.ref (He.ga K "BadPlace"))
  k_BadMarks : kitL K clsL (.ref (He.ga K "BadMarks")) (fun y => y == "BadMarks") = true
  m_BadMarks : mg "BadMarks" = some (.ref (He.ga K "BadMarks"))
  k_BadArgs : kitL K clsL (.ref (He.ga K "BadArgs")) (fun y => y == "BadArgs") = true
  m_BadArgs : mg "BadArgs" = some (.ref (He.ga K "BadArgs"))
  k_BadWords : kitL K clsL (.ref (He.ga K "BadWords")) (fun y => y == "BadWords") = true
  m_BadWords : mg "BadWords" = some (.ref (He.ga K "BadWords"))
  k_HasClasses : kitL K clsL (.ref (He.ga K "HasClasses")) (fun y => y == "HasClasses") = true
  m_HasClasses : mg "HasClasses" = some (.ref (He.ga K "HasClasses"))
  k_BadLimit : kitL K clsL (.ref (He.ga K "BadLimit")) (fun y => y == "BadLimit") = true
  m_BadLimit : mg "BadLimit" = some (.ref (He.ga K "BadLimit"))
  k_TooGreat : kitL K clsL (.ref (He.ga K "TooGreat")) (fun y => y == "TooGreat") = true
  m_TooGreat : mg "TooGreat" = some (.ref (He.ga K "TooGreat"))
  k_Endless : kitL K clsL (.ref (He.ga K "Endless")) (fun y => y == "Endless") = true
  m_Endless : mg "Endless" = some (.ref (He.ga K "Endless"))
  k_NotEnding : kitL K clsL (.ref (He.ga K "NotEnding")) (fun y => y == "NotEnding") = true
  m_NotEnding : mg "NotEnding" = some (.ref (He.ga K "NotEnding"))
  k_BadText : kitL K clsL (.ref (He.ga K "BadText")) (fun y => y == "BadText") = true
  m_BadText : mg "BadText" = some (.ref (He.ga K "BadText"))
  k_NotChecked : kitL K clsL (.ref (He.ga K "NotChecked")) (fun y => y == "NotChecked") = true
  m_NotChecked : mg "NotChecked" = some (.ref (He.ga K "NotChecked"))
  k_NotGood : kitL K clsL (.ref (He.ga K "NotGood")) (fun y => y == "NotGood") = true
  m_NotGood : mg "NotGood" = some (.ref (He.ga K "NotGood"))
  k_Untyped : kitL K clsL (.ref (He.ga K "Untyped")) (fun y => y == "Untyped") = true
  m_Untyped : mg "Untyped" = some (.ref (He.ga K "Untyped"))
  k_NotTyped : kitL K clsL (.ref (He.ga K "NotTyped")) (fun y => y == "NotTyped") = true
  m_NotTyped : mg "NotTyped" = some (.ref (He.ga K "NotTyped"))
  k_NotJoined : kitL K clsL (.ref (He.ga K "NotJoined")) (fun y => y == "NotJoined") = true
  m_NotJoined : mg "NotJoined" = some (.ref (He.ga K "NotJoined"))
  e_ChoiceError : ExnF K mg "ChoiceError"
  e_BadProgram : ExnF K mg "BadProgram"
  e_BadName : ExnF K mg "BadName"
  e_BadIndex : ExnF K mg "BadIndex"
  e_BadBook : ExnF K mg "BadBook"
  e_BadOther : ExnF K mg "BadOther"
  e_Unlike : ExnF K mg "Unlike"
  e_BadWays : ExnF K mg "BadWays"
  e_BadClasses : ExnF K mg "BadClasses"
  e_BadType : ExnF K mg "BadType"
  e_BadTypes : ExnF K mg "BadTypes"
  e_BadGoal : ExnF K mg "BadGoal"
  e_BadMany : ExnF K mg "BadMany"
  e_BadGoals : ExnF K mg "BadGoals"
  e_BadGivens : ExnF K mg "BadGivens"
  e_BadRoad : ExnF K mg "BadRoad"
  e_BadRoads : ExnF K mg "BadRoads"
  e_BadTables : ExnF K mg "BadTables"
  e_BadShape : ExnF K mg "BadShape"
  e_BadGroup : ExnF K mg "BadGroup"
  e_BadPlace : ExnF K mg "BadPlace"
  e_BadMarks : ExnF K mg "BadMarks"
  e_BadArgs : ExnF K mg "BadArgs"
  e_BadWords : ExnF K mg "BadWords"
  e_HasClasses : ExnF K mg "HasClasses"
  e_BadLimit : ExnF K mg "BadLimit"
  e_TooGreat : ExnF K mg "TooGreat"
  e_Endless : ExnF K mg "Endless"
  e_NotEnding : ExnF K mg "NotEnding"
  s_BadText : SupF prog.main.file K mg "BadText" "place" "BadText.__init__"
  s_NotChecked : SupF prog.main.file K mg "NotChecked" "what" "NotChecked.__init__"
  s_NotGood : SupF prog.main.file K mg "NotGood" "what" "NotGood.__init__"
  s_Untyped : SupF prog.main.file K mg "Untyped" "group" "Untyped.__init__"
  s_NotTyped : SupF prog.main.file K mg "NotTyped" "what" "NotTyped.__init__"
  s_NotJoined : SupF prog.main.file K mg "NotJoined" "what" "NotJoined.__init__"
  n_group : noatL K clsL "group" = true
  n_place : noatL K clsL "place" = true
  n_what : noatL K clsL "what" = true
structure Cs (w : World) (K : PySem.W.Frag) (mg : Str → Option Value) (base : Heap) (k : Nat) (S : Nat → Sem1) : Prop where
  c__law_urn : Cal prog w K mg base k "_law_urn" ["script"] (S 0)
  c__law_ball : Cal prog w K mg base k "_law_ball" ["urn", "many"] (S 1)
  c__law_same : Cal prog w K mg base k "_law_same" ["found", "owed"] (S 2)
  c__law_reserved : Cal prog w K mg base k "_law_reserved" [] (S 3)
  c__law_name : Cal prog w K mg base k "_law_name" ["urn", "first", "used"] (S 4)
  c__law_low : Cal prog w K mg base k "_law_low" ["urn", "used"] (S 5)
  c__law_high : Cal prog w K mg base k "_law_high" ["urn", "used"] (S 6)
  c__law_classes : Cal prog w K mg base k "_law_classes" ["e"] (S 7)
  c__law_made : Cal prog w K mg base k "_law_made" ["words", "place", "what", "index"] (S 8)
  c_law : Cal prog w K mg base k "law" ["script"] (S 9)
theorem sb_group : SupBind "group" := ⟨fun _ _ _ _ _ _ _ _ _ _ _ _ => rfl, fun _ _ _ _ _ _ _ _ _ _ _ _ => rfl⟩
theorem sb_place : SupBind "place" := ⟨fun _ _ _ _ _ _ _ _ _ _ _ _ => rfl, fun _ _ _ _ _ _ _ _ _ _ _ _ => rfl⟩
theorem sb_what : SupBind "what" := ⟨fun _ _ _ _ _ _ _ _ _ _ _ _ => rfl, fun _ _ _ _ _ _ _ _ _ _ _ _ => rfl⟩
/-! ### _law_urn -/
abbrev s__law_urn : Stmt := top 37
theorem sc__law_urn : FnScope ["script", "mixed", "cell"] ["script"] (defScope s__law_urn) := ⟨rfl, rfl, rfl, by decide +kernel, rfl, by decide +kernel, by decide +kernel⟩
noncomputable def b__law_urn (S : Nat → Sem1) : DS :=
  (dSeq (dAsg (dLit (.int 41)) (tgName 1))
    (dSeq (dFor (dSrc (dSlice (dVar 0) oNone (oSome (dLit (.int 63))))) (tgName 2) (dAsg (dBin modD (dCB intF (aCons (dBin addD (dBin addD (dBin mulD (dVar 1) (dLit (.int 48271))) (dBin modD (dCB intF (aCons (dVar 2) aNil)) (dLit (.int 2147483629)))) (dLit (.int 13))) aNil)) (dLit (.int 2147483647))) (tgName 1)))
    (dRet (dKeep true (dLim (aCons (dKeep true (dLc (dSrc (dSlice (dVar 0) oNone (oSome (dLit (.int 63))))) (tgName 2) (tCmpD geB (dVar 2) (dBin powD (dLit (.int 10)) (dLit (.int 18)))) (one1 (dCB intF (aCons (dVar 2) aNil))) (([("cell", 2)] : List (Str × Nat)).map (·.2)))) (aCons (dLit (.int 0)) (aCons (dVar 1) (aCons (dLit (.int 0)) aNil)))))))))
theorem o__law_urn {w : World} {K : PySem.W.Frag} {mg : Str → Option Value} {base : Heap} {k : Nat} {S : Nat → Sem1} {f : Addr} {fd : FuncData} (F : Fx K mg) (C : Cs w K mg base k S) (U : FunD K "_law_urn" "_law_urn" (defArgs s__law_urn) (defBody s__law_urn) (defScope s__law_urn) [] [] f fd) :
    FnOk prog w K mg base (L2.CX prog w) (k + 1) f fd ["script"] (spF K mg 1 (runFn 3 (b__law_urn S))) := by
  refine fn_okD U sc__law_urn rfl fun cdv A outer s H E hr => ?_
  have hN := sc__law_urn.nd
  have tk : Takes (cxOf (L2.CX prog w) prog w K mg base ["script", "mixed", "cell"] "_law_urn" (defScope s__law_urn) f cdv A outer s H E) (fun c d _ H => E c d H) := takes_of rfl rfl rfl rfl
  exact (mss_cons (gSet 1 hN me_int)
    (mss_cons (gFor (passes_of rfl) rfl (mi_of (me_slice (gV 0) mo_none (mo_some me_int))) (gN 2 hN) (mss_one (gSet 1 hN (me_bin op_modF (gTy (cr_intF) F.z_int (by decide +kernel) (gC1 (me_bin op_addF (me_bin op_addF (me_bin op_mulF (gV 1) me_int) (me_bin op_modF (gTy (cr_intF) F.z_int (by decide +kernel) (gC1 (gV 2) ma_nil)) me_int)) me_int) ma_nil)) me_int))))
    (mss_one (ms_ret (me_keep true (mf_lst (gC1 (me_keep true (mf_lc (own := [("cell", 2)]) rfl hN (mi_of (me_slice (gV 0) mo_none (mo_some me_int))) (blkOk_by (by kernel_rfl)) (by decide) (fun _ _ _ _ _ => (gN 2 hN)) (fun _ _ _ _ _ => (mts_one (gTc op_geF (gV 2) (me_bin op_powF me_int me_int)))) (fun _ _ _ _ _ => (gTy (cr_intF) F.z_int (by decide +kernel) (gC1 (gV 2) ma_nil))))) (gC1 me_int (gC1 (gV 1) (gC1 me_int ma_nil))))))))))
/-! ### _law_ball -/
abbrev s__law_ball : Stmt := top 38
theorem sc__law_ball : FnScope ["urn", "many", "found"] ["urn", "many"] (defScope s__law_ball) := ⟨rfl, rfl, rfl, by decide +kernel, rfl, by decide +kernel, by decide +kernel⟩
noncomputable def b__law_ball (S : Nat → Sem1) : DS :=
  (dSeq (dIfS (tAndD (tCmpD eqB (dBin ixD (dVar 0) (dLit (.int 1))) (dLit (.int 0))) (tCmpD neB (dBin ixD (dVar 0) (dLit (.int 0))) (dKeep false (dLim aNil)))) (dAsg (dBin subD (dM .list popM (dBin ixD (dVar 0) (dLit (.int 0))) (aCons (dLit (.int 0)) aNil)) (dBin powD (dLit (.int 10)) (dLit (.int 18)))) (tgSub (dVar 0) (dLit (.int 1)))) dNext)
    (dSeq (dIfS (tCmpD gtB (dBin ixD (dVar 0) (dLit (.int 1))) (dLit (.int 0))) (dSeq (dAsg (dBin modD (dCB intF (aCons (dBin ixD (dVar 0) (dLit (.int 1))) aNil)) (dVar 1)) (tgName 2))
    (dSeq (dAsg (dBin fdivD (dBin ixD (dVar 0) (dLit (.int 1))) (dVar 1)) (tgSub (dVar 0) (dLit (.int 1))))
    (dRet (dVar 2)))) dNext)
    (dSeq (dAsg (dBin addD (dBin ixD (dVar 0) (dLit (.int 3))) (dLit (.int 1))) (tgSub (dVar 0) (dLit (.int 3))))
    (dSeq (dAsg (dBin modD (dCB intF (aCons (dBin addD (dBin addD (dBin mulD (dBin ixD (dVar 0) (dLit (.int 2))) (dLit (.int 69621))) (dBin mulD (dBin mulD (dBin ixD (dVar 0) (dLit (.int 3))) (dBin ixD (dVar 0) (dLit (.int 3)))) (dLit (.int 40014)))) (dLit (.int 91))) aNil)) (dLit (.int 2147483563))) (tgSub (dVar 0) (dLit (.int 2))))
    (dRet (dBin modD (dBin fdivD (dBin modD (dCB intF (aCons (dBin mulD (dBin ixD (dVar 0) (dLit (.int 2))) (dBin addD (dBin fdivD (dBin ixD (dVar 0) (dLit (.int 2))) (dLit (.int 64))) (dLit (.int 7)))) aNil)) (dLit (.int 2147483399))) (dLit (.int 16))) (dVar 1)))))))
theorem o__law_ball {w : World} {K : PySem.W.Frag} {mg : Str → Option Value} {base : Heap} {k : Nat} {S : Nat → Sem1} {f : Addr} {fd : FuncData} (F : Fx K mg) (C : Cs w K mg base k S) (U : FunD K "_law_ball" "_law_ball" (defArgs s__law_ball) (defBody s__law_ball) (defScope s__law_ball) [] [] f fd) :
    FnOk prog w K mg base (L2.CX prog w) (k + 1) f fd ["urn", "many"] (spF K mg 2 (runFn 3 (b__law_ball S))) := by
  refine fn_okD U sc__law_ball rfl fun cdv A outer s H E hr => ?_
  have hN := sc__law_ball.nd
  have tk : Takes (cxOf (L2.CX prog w) prog w K mg base ["urn", "many", "found"] "_law_ball" (defScope s__law_ball) f cdv A outer s H E) (fun c d _ H => E c d H) := takes_of rfl rfl rfl rfl
  exact (mss_cons (ms_if (mt_bool (mw_and (gTc (op_eqF hr) (gIx hr (gV 0) me_int) me_int) (mw_and1 (gTc (op_neF hr) (gIx hr (gV 0) me_int) (me_keep false (mf_lst ma_nil)))))) (mss_one (gAsg (me_bin op_subF (gPop (gIx hr (gV 0) me_int) (gC1 me_int ma_nil)) (me_bin op_powF me_int me_int)) (gGs hr (gV 0) me_int))) mss_nil)
    (mss_cons (ms_if (gTc op_gtF (gIx hr (gV 0) me_int) me_int) (mss_cons (gSet 2 hN (me_bin op_modF (gTy (cr_intF) F.z_int (by decide +kernel) (gC1 (gIx hr (gV 0) me_int) ma_nil)) (gV 1)))
    (mss_cons (gAsg (me_bin op_fdivF (gIx hr (gV 0) me_int) (gV 1)) (gGs hr (gV 0) me_int))
    (mss_one (ms_ret (gV 2))))) mss_nil)
    (mss_cons (gAsg (me_bin op_addF (gIx hr (gV 0) me_int) me_int) (gGs hr (gV 0) me_int))
    (mss_cons (gAsg (me_bin op_modF (gTy (cr_intF) F.z_int (by decide +kernel) (gC1 (me_bin op_addF (me_bin op_addF (me_bin op_mulF (gIx hr (gV 0) me_int) me_int) (me_bin op_mulF (me_bin op_mulF (gIx hr (gV 0) me_int) (gIx hr (gV 0) me_int)) me_int)) me_int) ma_nil)) me_int) (gGs hr (gV 0) me_int))
    (mss_one (ms_ret (me_bin op_modF (me_bin op_fdivF (me_bin op_modF (gTy (cr_intF) F.z_int (by decide +kernel) (gC1 (me_bin op_mulF (gIx hr (gV 0) me_int) (me_bin op_addF (me_bin op_fdivF (gIx hr (gV 0) me_int) me_int) me_int)) ma_nil)) me_int) me_int) (gV 1))))))))
/-! ### _law_same -/
abbrev s__law_same : Stmt := top 39
theorem sc__law_same : FnScope ["found", "owed", "k"] ["found", "owed"] (defScope s__law_same) := ⟨rfl, rfl, rfl, by decide +kernel, rfl, by decide +kernel, by decide +kernel⟩
noncomputable def b__law_same (S : Nat → Sem1) : DS :=
  (dSeq (dIfS (tVal (dIsA .tuple (dVar 1))) (dSeq (dIfS (tOrD (tNotD (tVal (dIsA .tuple (dVar 0)))) (tCmpD neB (dCB lenD (aCons (dVar 0) aNil)) (dCB lenD (aCons (dVar 1) aNil)))) (dRet (dLit (.bl false))) dNext)
    (dRet (dBin eqD (dKeep false (dLc (dRg rg1 (aCons (dCB lenD (aCons (dVar 1) aNil)) aNil)) (tgName 2) (tNotD (tVal (dCall 2 (S 2) (aCons (dBin ixD (dVar 0) (dVar 2)) (aCons (dBin ixD (dVar 1) (dVar 2)) aNil))))) (one1 (dVar 2)) (([("k", 2)] : List (Str × Nat)).map (·.2)))) (dKeep false (dLim aNil))))) dNext)
    (dSeq (dIfS (tOrD (tCmpD isNB (dVar 1) (dLit .non)) (tVal (dIsA .bool (dVar 1)))) (dRet (dOr (dAnd (dBin isND (dVar 0) (dLit .non)) (dBin isND (dVar 1) (dLit .non))) (dAnd (dIsA .bool (dVar 0)) (dBin eqD (dVar 0) (dVar 1))))) dNext)
    (dSeq (dIfS (tVal (dIsA .str (dVar 1))) (dRet (dAnd (dIsA .str (dVar 0)) (dBin eqD (dVar 0) (dVar 1)))) dNext)
    (dRet (dAnd (dIsA .int (dVar 0)) (dAnd (dNot (dIsA .bool (dVar 0))) (dBin eqD (dVar 0) (dVar 1))))))))
theorem o__law_same {w : World} {K : PySem.W.Frag} {mg : Str → Option Value} {base : Heap} {k : Nat} {S : Nat → Sem1} {f : Addr} {fd : FuncData} (F : Fx K mg) (C : Cs w K mg base k S) (U : FunD K "_law_same" "_law_same" (defArgs s__law_same) (defBody s__law_same) (defScope s__law_same) [] [] f fd) :
    FnOk prog w K mg base (L2.CX prog w) (k + 1) f fd ["found", "owed"] (spF K mg 2 (runFn 3 (b__law_same S))) := by
  refine fn_okD U sc__law_same rfl fun cdv A outer s H E hr => ?_
  have hN := sc__law_same.nd
  have tk : Takes (cxOf (L2.CX prog w) prog w K mg base ["found", "owed", "k"] "_law_same" (defScope s__law_same) f cdv A outer s H E) (fun c d _ H => E c d H) := takes_of rfl rfl rfl rfl
  exact (mss_cons (ms_if (gTv (gIsA (k := .tuple) F.z_isinstance F.z_tuple (by decide +kernel) (gV 1))) (mss_cons (ms_if (mt_bool (mw_or (mt_not (gTv (gIsA (k := .tuple) F.z_isinstance F.z_tuple (by decide +kernel) (gV 0)))) (mw_or1 (gTc (op_neF hr) (gBlt (cr_lenF) F.z_len boot_len (gC1 (gV 0) ma_nil)) (gBlt (cr_lenF) F.z_len boot_len (gC1 (gV 1) ma_nil)))))) (mss_one (ms_ret me_bl)) mss_nil)
    (mss_one (ms_ret (gCmp (op_eqF hr) (me_keep false (mf_lc (own := [("k", 2)]) rfl hN (mi_range1 (by rfl) F.z_range (gC1 (gBlt (cr_lenF) F.z_len boot_len (gC1 (gV 1) ma_nil)) ma_nil)) (blkOk_by (by kernel_rfl)) (by decide) (fun _ _ _ _ _ => (gN 2 hN)) (fun _ _ _ _ _ => (mts_one (mt_not (gTv (gCall (C.c__law_same) hr takes0 (gC1 (gIx hr (gV 0) (gV 2)) (gC1 (gIx hr (gV 1) (gV 2)) ma_nil))))))) (fun _ _ _ _ _ => (gV 2)))) (me_keep false (mf_lst ma_nil)))))) mss_nil)
    (mss_cons (ms_if (mt_bool (mw_or (gTc op_isF (gV 1) me_non) (mw_or1 (gTv (gIsA (k := .bool) F.z_isinstance F.z_bool (by decide +kernel) (gV 1)))))) (mss_one (ms_ret (me_or (me_and (gCmp op_isF (gV 0) me_non) (me_one (gCmp op_isF (gV 1) me_non))) (me_one (me_and (gIsA (k := .bool) F.z_isinstance F.z_bool (by decide +kernel) (gV 0)) (me_one (gCmp (op_eqF hr) (gV 0) (gV 1)))))))) mss_nil)
    (mss_cons (ms_if (gTv (gIsA (k := .str) F.z_isinstance F.z_str (by decide +kernel) (gV 1))) (mss_one (ms_ret (me_and (gIsA (k := .str) F.z_isinstance F.z_str (by decide +kernel) (gV 0)) (me_one (gCmp (op_eqF hr) (gV 0) (gV 1)))))) mss_nil)
    (mss_one (ms_ret (me_and (gIsA (k := .int) F.z_isinstance F.z_int (by decide +kernel) (gV 0)) (me_and (me_not (gIsA (k := .bool) F.z_isinstance F.z_bool (by decide +kernel) (gV 0))) (me_one (gCmp (op_eqF hr) (gV 0) (gV 1))))))))))
/-! ### _law_reserved -/
abbrev s__law_reserved : Stmt := top 40
theorem sc__law_reserved : FnScope [] [] (defScope s__law_reserved) := ⟨rfl, rfl, rfl, by decide +kernel, rfl, by decide +kernel, by decide +kernel⟩
noncomputable def b__law_reserved (S : Nat → Sem1) : DS :=
  (dRet (dTup (aCons (dLit (.str "class")) (aCons (dLit (.str "def")) (aCons (dLit (.str "else")) (aCons (dLit (.str "fn")) (aCons (dLit (.str "give")) (aCons (dLit (.str "if")) (aCons (dLit (.str "kind")) (aCons (dLit (.str "let")) (aCons (dLit (.str "match")) (aCons (dLit (.str "upper")) (aCons (dLit (.str "way")) (aCons (dLit (.str "whole")) aNil))))))))))))))
theorem o__law_reserved {w : World} {K : PySem.W.Frag} {mg : Str → Option Value} {base : Heap} {k : Nat} {S : Nat → Sem1} {f : Addr} {fd : FuncData} (F : Fx K mg) (C : Cs w K mg base k S) (U : FunD K "_law_reserved" "_law_reserved" (defArgs s__law_reserved) (defBody s__law_reserved) (defScope s__law_reserved) [] [] f fd) :
    FnOk prog w K mg base (L2.CX prog w) (k + 1) f fd [] (spF K mg 0 (runFn 0 (b__law_reserved S))) := by
  refine fn_okD U sc__law_reserved rfl fun cdv A outer s H E hr => ?_
  have hN := sc__law_reserved.nd
  have tk : Takes (cxOf (L2.CX prog w) prog w K mg base [] "_law_reserved" (defScope s__law_reserved) f cdv A outer s H E) (fun c d _ H => E c d H) := takes_of rfl rfl rfl rfl
  exact (mss_one (ms_ret (me_tup (gC1 me_str (gC1 me_str (gC1 me_str (gC1 me_str (gC1 me_str (gC1 me_str (gC1 me_str (gC1 me_str (gC1 me_str (gC1 me_str (gC1 me_str (gC1 me_str ma_nil)))))))))))))))
/-! ### _law_name -/
abbrev s__law_name : Stmt := top 41
theorem sc__law_name : FnScope ["urn", "first", "used", "tail", "name", "k"] ["urn", "first", "used"] (defScope s__law_name) := ⟨rfl, rfl, rfl, by decide +kernel, rfl, by decide +kernel, by decide +kernel⟩
noncomputable def b__law_name (S : Nat → Sem1) : DS :=
  (dSeq (dAsg (dLit (.str "abcdefghijklmnopqrstuvwxyzABCDEFGHIJKLMNOPQRSTUVWXYZ0123456789")) (tgName 3))
    (dSeq (dAsg (dBin ixD (dVar 1) (dCall 2 (S 1) (aCons (dVar 0) (aCons (dCB lenD (aCons (dVar 1) aNil)) aNil)))) (tgName 4))
    (dSeq (dFor (dRg rg1 (aCons (dBin ixD (dKeep false (dLim (aCons (dLit (.int 0)) (aCons (dLit (.int 1)) (aCons (dLit (.int 2)) (aCons (dLit (.int 9)) aNil)))))) (dCall 2 (S 1) (aCons (dVar 0) (aCons (dLit (.int 4)) aNil)))) aNil)) (tgName 5) (dAsg (dBin addD (dVar 4) (dBin ixD (dVar 3) (dCall 2 (S 1) (aCons (dVar 0) (aCons (dLit (.int 62)) aNil))))) (tgName 4)))
    (dSeq (dIfS (tOrD (tCmpD inB (dVar 4) (dVar 2)) (tOrD (tCmpD inB (dSlice (dVar 4) oNone (oSome (dLit (.int 2)))) (dTup (aCons (dLit (.str "zz")) (aCons (dLit (.str "Zz")) aNil)))) (tCmpD inB (dVar 4) (dBin addD (dCall0 (S 3)) (dTup (aCons (dLit (.str "of")) (aCons (dLit (.str "to")) (aCons (dLit (.str "var")) aNil)))))))) (dAsg (dBin ixD (dKeep false (dLc (dRg rg1 (aCons (dBin addD (dCB lenD (aCons (dVar 2) aNil)) (dLit (.int 1))) aNil)) (tgName 5) (tCmpD ninB (dBin addD (dSlice (dVar 4) oNone (oSome (dLit (.int 1)))) (dCB strF (aCons (dVar 5) aNil))) (dVar 2)) (one1 (dBin addD (dSlice (dVar 4) oNone (oSome (dLit (.int 1)))) (dCB strF (aCons (dVar 5) aNil)))) (([("k", 5)] : List (Str × Nat)).map (·.2)))) (dLit (.int 0))) (tgName 4)) dNext)
    (dSeq (dDrop (dM .list appendM (dVar 2) (aCons (dVar 4) aNil)))
    (dRet (dVar 4)))))))
theorem o__law_name {w : World} {K : PySem.W.Frag} {mg : Str → Option Value} {base : Heap} {k : Nat} {S : Nat → Sem1} {f : Addr} {fd : FuncData} (F : Fx K mg) (C : Cs w K mg base k S) (U : FunD K "_law_name" "_law_name" (defArgs s__law_name) (defBody s__law_name) (defScope s__law_name) [] [] f fd) :
    FnOk prog w K mg base (L2.CX prog w) (k + 1) f fd ["urn", "first", "used"] (spF K mg 3 (runFn 6 (b__law_name S))) := by
  refine fn_okD U sc__law_name rfl fun cdv A outer s H E hr => ?_
  have hN := sc__law_name.nd
  have tk : Takes (cxOf (L2.CX prog w) prog w K mg base ["urn", "first", "used", "tail", "name", "k"] "_law_name" (defScope s__law_name) f cdv A outer s H E) (fun c d _ H => E c d H) := takes_of rfl rfl rfl rfl
  exact (mss_cons (gSet 3 hN me_str)
    (mss_cons (gSet 4 hN (gIx hr (gV 1) (gCall (C.c__law_ball) hr tk (gC1 (gV 0) (gC1 (gBlt (cr_lenF) F.z_len boot_len (gC1 (gV 1) ma_nil)) ma_nil)))))
    (mss_cons (gFor (passes_of rfl) rfl (mi_range1 (by rfl) F.z_range (gC1 (gIx hr (me_keep false (mf_lst (gC1 me_int (gC1 me_int (gC1 me_int (gC1 me_int ma_nil)))))) (gCall (C.c__law_ball) hr tk (gC1 (gV 0) (gC1 me_int ma_nil)))) ma_nil)) (gN 5 hN) (mss_one (gSet 4 hN (me_bin op_addF (gV 4) (gIx hr (gV 3) (gCall (C.c__law_ball) hr tk (gC1 (gV 0) (gC1 me_int ma_nil))))))))
    (mss_cons (ms_if (mt_bool (mw_or (gTc (op_inF hr) (gV 4) (gV 2)) (mw_or (gTc (op_inF hr) (me_slice (gV 4) mo_none (mo_some me_int)) (me_tup (gC1 me_str (gC1 me_str ma_nil)))) (mw_or1 (gTc (op_inF hr) (gV 4) (me_bin op_addF (gCall0 (C.c__law_reserved) hr) (me_tup (gC1 me_str (gC1 me_str (gC1 me_str ma_nil)))))))))) (mss_one (gSet 4 hN (gIx hr (me_keep false (mf_lc (own := [("k", 5)]) rfl hN (mi_range1 (by rfl) F.z_range (gC1 (me_bin op_addF (gBlt (cr_lenF) F.z_len boot_len (gC1 (gV 2) ma_nil)) me_int) ma_nil)) (blkOk_by (by kernel_rfl)) (by decide) (fun _ _ _ _ _ => (gN 5 hN)) (fun _ _ _ _ _ => (mts_one (gTc (op_ninF hr) (me_bin op_addF (me_slice (gV 4) mo_none (mo_some me_int)) (gTy (cr_strF) F.z_str (by decide +kernel) (gC1 (gV 5) ma_nil))) (gV 2)))) (fun _ _ _ _ _ => (me_bin op_addF (me_slice (gV 4) mo_none (mo_some me_int)) (gTy (cr_strF) F.z_str (by decide +kernel) (gC1 (gV 5) ma_nil)))))) me_int))) mss_nil)
    (mss_cons (gEx (gApp (gV 2) (gC1 (gV 4) ma_nil)))
    (mss_one (ms_ret (gV 4))))))))
/-! ### _law_low -/
abbrev s__law_low : Stmt := top 42
theorem sc__law_low : FnScope ["urn", "used"] ["urn", "used"] (defScope s__law_low) := ⟨rfl, rfl, rfl, by decide +kernel, rfl, by decide +kernel, by decide +kernel⟩
noncomputable def b__law_low (S : Nat → Sem1) : DS :=
  (dRet (dCall 3 (S 4) (aCons (dVar 0) (aCons (dLit (.str "abcdefghijklmnopqrstuvwxyz")) (aCons (dVar 1) aNil)))))
theorem o__law_low {w : World} {K : PySem.W.Frag} {mg : Str → Option Value} {base : Heap} {k : Nat} {S : Nat → Sem1} {f : Addr} {fd : FuncData} (F : Fx K mg) (C : Cs w K mg base k S) (U : FunD K "_law_low" "_law_low" (defArgs s__law_low) (defBody s__law_low) (defScope s__law_low) [] [] f fd) :
    FnOk prog w K mg base (L2.CX prog w) (k + 1) f fd ["urn", "used"] (spF K mg 2 (runFn 2 (b__law_low S))) := by
  refine fn_okD U sc__law_low rfl fun cdv A outer s H E hr => ?_
  have hN := sc__law_low.nd
  have tk : Takes (cxOf (L2.CX prog w) prog w K mg base ["urn", "used"] "_law_low" (defScope s__law_low) f cdv A outer s H E) (fun c d _ H => E c d H) := takes_of rfl rfl rfl rfl
  exact (mss_one (ms_ret (gCall (C.c__law_name) hr tk (gC1 (gV 0) (gC1 me_str (gC1 (gV 1) ma_nil))))))
/-! ### _law_high -/
abbrev s__law_high : Stmt := top 43
theorem sc__law_high : FnScope ["urn", "used"] ["urn", "used"] (defScope s__law_high) := ⟨rfl, rfl, rfl, by decide +kernel, rfl, by decide +kernel, by decide +kernel⟩
noncomputable def b__law_high (S : Nat → Sem1) : DS :=
  (dRet (dCall 3 (S 4) (aCons (dVar 0) (aCons (dLit (.str "ABCDEFGHIJKLMNOPQRSTUVWXYZ")) (aCons (dVar 1) aNil)))))
theorem o__law_high {w : World} {K : PySem.W.Frag} {mg : Str → Option Value} {base : Heap} {k : Nat} {S : Nat → Sem1} {f : Addr} {fd : FuncData} (F : Fx K mg) (C : Cs w K mg base k S) (U : FunD K "_law_high" "_law_high" (defArgs s__law_high) (defBody s__law_high) (defScope s__law_high) [] [] f fd) :
    FnOk prog w K mg base (L2.CX prog w) (k + 1) f fd ["urn", "used"] (spF K mg 2 (runFn 2 (b__law_high S))) := by
  refine fn_okD U sc__law_high rfl fun cdv A outer s H E hr => ?_
  have hN := sc__law_high.nd
  have tk : Takes (cxOf (L2.CX prog w) prog w K mg base ["urn", "used"] "_law_high" (defScope s__law_high) f cdv A outer s H E) (fun c d _ H => E c d H) := takes_of rfl rfl rfl rfl
  exact (mss_one (ms_ret (gCall (C.c__law_name) hr tk (gC1 (gV 0) (gC1 me_str (gC1 (gV 1) ma_nil))))))
/-! ### _law_classes -/
abbrev s__law_classes : Stmt := top 44
theorem sc__law_classes : FnScope ["e", "found"] ["e"] (defScope s__law_classes) := ⟨rfl, rfl, rfl, by decide +kernel, rfl, by decide +kernel, by decide +kernel⟩
noncomputable def b__law_classes (S : Nat → Sem1) : DS :=
  (dSeq (dAsg (dKeep false (dLim (aCons (dIsX clsL (fun y => y == "BadText") (dVar 0)) (aCons (dIsX clsL (fun y => y == "NotChecked") (dVar 0)) (aCons (dIsX clsL (fun y => y == "NotGood") (dVar 0)) aNil))))) (tgName 1))
    (dSeq (dAsg (dBin addD (dVar 1) (dKeep false (dLim (aCons (dIsX clsL (fun y => y == "NotTyped") (dVar 0)) (aCons (dIsX clsL (fun y => y == "NotJoined") (dVar 0)) (aCons (dIsX clsL (fun y => y == "Untyped") (dVar 0)) aNil)))))) (tgName 1))
    (dSeq (dAsg (dBin addD (dVar 1) (dKeep false (dLim (aCons (dIsX clsL (fun y => y == "BadProgram") (dVar 0)) (aCons (dIsX clsL (fun y => y == "BadName") (dVar 0)) (aCons (dIsX clsL (fun y => y == "BadIndex") (dVar 0)) aNil)))))) (tgName 1))
    (dSeq (dAsg (dBin addD (dVar 1) (dKeep false (dLim (aCons (dIsX clsL (fun y => y == "BadBook") (dVar 0)) (aCons (dIsX clsL (fun y => y == "BadOther") (dVar 0)) (aCons (dIsX clsL (fun y => y == "Unlike") (dVar 0)) (aCons (dIsX clsL (fun y => y == "BadWays") (dVar 0)) aNil))))))) (tgName 1))
    (dSeq (dAsg (dBin addD (dVar 1) (dKeep false (dLim (aCons (dIsX clsL (fun y => y == "BadClasses") (dVar 0)) (aCons (dIsX clsL (fun y => y == "BadType") (dVar 0)) (aCons (dIsX clsL (fun y => y == "BadTypes") (dVar 0)) aNil)))))) (tgName 1))
    (dSeq (dAsg (dBin addD (dVar 1) (dKeep false (dLim (aCons (dIsX clsL (fun y => y == "BadGoal") (dVar 0)) (aCons (dIsX clsL (fun y => y == "BadMany") (dVar 0)) (aCons (dIsX clsL (fun y => y == "BadGoals") (dVar 0)) (aCons (dIsX clsL (fun y => y == "BadGivens") (dVar 0)) aNil))))))) (tgName 1))
    (dSeq (dAsg (dBin addD (dVar 1) (dKeep false (dLim (aCons (dIsX clsL (fun y => y == "BadRoad") (dVar 0)) (aCons (dIsX clsL (fun y => y == "BadRoads") (dVar 0)) (aCons (dIsX clsL (fun y => y == "BadTables") (dVar 0)) aNil)))))) (tgName 1))
    (dSeq (dAsg (dBin addD (dVar 1) (dKeep false (dLim (aCons (dIsX clsL (fun y => y == "BadShape") (dVar 0)) (aCons (dIsX clsL (fun y => y == "BadGroup") (dVar 0)) (aCons (dIsX clsL (fun y => y == "BadPlace") (dVar 0)) aNil)))))) (tgName 1))
    (dSeq (dAsg (dBin addD (dVar 1) (dKeep false (dLim (aCons (dIsX clsL (fun y => y == "BadMarks") (dVar 0)) (aCons (dIsX clsL (fun y => y == "BadArgs") (dVar 0)) (aCons (dIsX clsL (fun y => y == "BadWords") (dVar 0)) (aCons (dIsX clsL (fun y => y == "HasClasses") (dVar 0)) aNil))))))) (tgName 1))
    (dSeq (dAsg (dBin addD (dVar 1) (dKeep false (dLim (aCons (dIsX clsL (fun y => y == "BadLimit") (dVar 0)) (aCons (dIsX clsL (fun y => y == "TooGreat") (dVar 0)) (aCons (dIsX clsL (fun y => y == "Endless") (dVar 0)) (aCons (dIsX clsL (fun y => y == "NotEnding") (dVar 0)) aNil))))))) (tgName 1))
    (dRet (dVar 1))))))))))))
theorem o__law_classes {w : World} {K : PySem.W.Frag} {mg : Str → Option Value} {base : Heap} {k : Nat} {S : Nat → Sem1} {f : Addr} {fd : FuncData} (F : Fx K mg) (C : Cs w K mg base k S) (U : FunD K "_law_classes" "_law_classes" (defArgs s__law_classes) (defBody s__law_classes) (defScope s__law_classes) [] [] f fd) :
    FnOk prog w K mg base (L2.CX prog w) (k + 1) f fd ["e"] (spF K mg 1 (runFn 2 (b__law_classes S))) := by
  refine fn_okD U sc__law_classes rfl fun cdv A outer s H E hr => ?_
  have hN := sc__law_classes.nd
  have tk : Takes (cxOf (L2.CX prog w) prog w K mg base ["e", "found"] "_law_classes" (defScope s__law_classes) f cdv A outer s H E) (fun c d _ H => E c d H) := takes_of rfl rfl rfl rfl
  exact (mss_cons (gSet 1 hN (me_keep false (mf_lst (gC1 (gIsX F.xc F.k_BadText F.m_BadText F.z_isinstance (gV 0)) (gC1 (gIsX F.xc F.k_NotChecked F.m_NotChecked F.z_isinstance (gV 0)) (gC1 (gIsX F.xc F.k_NotGood F.m_NotGood F.z_isinstance (gV 0)) ma_nil))))))
    (mss_cons (gSet 1 hN (me_bin op_addF (gV 1) (me_keep false (mf_lst (gC1 (gIsX F.xc F.k_NotTyped F.m_NotTyped F.z_isinstance (gV 0)) (gC1 (gIsX F.xc F.k_NotJoined F.m_NotJoined F.z_isinstance (gV 0)) (gC1 (gIsX F.xc F.k_Untyped F.m_Untyped F.z_isinstance (gV 0)) ma_nil)))))))
    (mss_cons (gSet 1 hN (me_bin op_addF (gV 1) (me_keep false (mf_lst (gC1 (gIsX F.xc F.k_BadProgram F.m_BadProgram F.z_isinstance (gV 0)) (gC1 (gIsX F.xc F.k_BadName F.m_BadName F.z_isinstance (gV 0)) (gC1 (gIsX F.xc F.k_BadIndex F.m_BadIndex F.z_isinstance (gV 0)) ma_nil)))))))
    (mss_cons (gSet 1 hN (me_bin op_addF (gV 1) (me_keep false (mf_lst (gC1 (gIsX F.xc F.k_BadBook F.m_BadBook F.z_isinstance (gV 0)) (gC1 (gIsX F.xc F.k_BadOther F.m_BadOther F.z_isinstance (gV 0)) (gC1 (gIsX F.xc F.k_Unlike F.m_Unlike F.z_isinstance (gV 0)) (gC1 (gIsX F.xc F.k_BadWays F.m_BadWays F.z_isinstance (gV 0)) ma_nil))))))))
    (mss_cons (gSet 1 hN (me_bin op_addF (gV 1) (me_keep false (mf_lst (gC1 (gIsX F.xc F.k_BadClasses F.m_BadClasses F.z_isinstance (gV 0)) (gC1 (gIsX F.xc F.k_BadType F.m_BadType F.z_isinstance (gV 0)) (gC1 (gIsX F.xc F.k_BadTypes F.m_BadTypes F.z_isinstance (gV 0)) ma_nil)))))))
    (mss_cons (gSet 1 hN (me_bin op_addF (gV 1) (me_keep false (mf_lst (gC1 (gIsX F.xc F.k_BadGoal F.m_BadGoal F.z_isinstance (gV 0)) (gC1 (gIsX F.xc F.k_BadMany F.m_BadMany F.z_isinstance (gV 0)) (gC1 (gIsX F.xc F.k_BadGoals F.m_BadGoals F.z_isinstance (gV 0)) (gC1 (gIsX F.xc F.k_BadGivens F.m_BadGivens F.z_isinstance (gV 0)) ma_nil))))))))
    (mss_cons (gSet 1 hN (me_bin op_addF (gV 1) (me_keep false (mf_lst (gC1 (gIsX F.xc F.k_BadRoad F.m_BadRoad F.z_isinstance (gV 0)) (gC1 (gIsX F.xc F.k_BadRoads F.m_BadRoads F.z_isinstance (gV 0)) (gC1 (gIsX F.xc F.k_BadTables F.m_BadTables F.z_isinstance (gV 0)) ma_nil)))))))
    (mss_cons (gSet 1 hN (me_bin op_addF (gV 1) (me_keep false (mf_lst (gC1 (gIsX F.xc F.k_BadShape F.m_BadShape F.z_isinstance (gV 0)) (gC1 (gIsX F.xc F.k_BadGroup F.m_BadGroup F.z_isinstance (gV 0)) (gC1 (gIsX F.xc F.k_BadPlace F.m_BadPlace F.z_isinstance (gV 0)) ma_nil)))))))
    (mss_cons (gSet 1 hN (me_bin op_addF (gV 1) (me_keep false (mf_lst (gC1 (gIsX F.xc F.k_BadMarks F.m_BadMarks F.z_isinstance (gV 0)) (gC1 (gIsX F.xc F.k_BadArgs F.m_BadArgs F.z_isinstance (gV 0)) (gC1 (gIsX F.xc F.k_BadWords F.m_BadWords F.z_isinstance (gV 0)) (gC1 (gIsX F.xc F.k_HasClasses F.m_HasClasses F.z_isinstance (gV 0)) ma_nil))))))))
    (mss_cons (gSet 1 hN (me_bin op_addF (gV 1) (me_keep false (mf_lst (gC1 (gIsX F.xc F.k_BadLimit F.m_BadLimit F.z_isinstance (gV 0)) (gC1 (gIsX F.xc F.k_TooGreat F.m_TooGreat F.z_isinstance (gV 0)) (gC1 (gIsX F.xc F.k_Endless F.m_Endless F.z_isinstance (gV 0)) (gC1 (gIsX F.xc F.k_NotEnding F.m_NotEnding F.z_isinstance (gV 0)) ma_nil))))))))
    (mss_one (ms_ret (gV 1)))))))))))))
/-! ### _law_made -/
abbrev s__law_made : Stmt := top 45
theorem sc__law_made : FnScope ["words", "place", "what", "index", "found"] ["words", "place", "what", "index"] (defScope s__law_made) := ⟨rfl, rfl, rfl, by decide +kernel, rfl, by decide +kernel, by decide +kernel⟩
noncomputable def b__law_made (S : Nat → Sem1) : DS :=
  (dSeq (dAsg (dKeep false (dLim (aCons (dExf "BadText" "place" (dVar 1)) (aCons (dExf "NotChecked" "what" (dVar 2)) (aCons (dExf "NotGood" "what" (dVar 2)) (aCons (dExf "NotTyped" "what" (dVar 2)) (aCons (dExf "NotJoined" "what" (dVar 2)) aNil))))))) (tgName 4))
    (dSeq (dAsg (dBin addD (dVar 4) (dKeep false (dLim (aCons (dExf "Untyped" "group" (dVar 3)) (aCons (dExn "BadProgram" (dVar 0)) (aCons (dExn "BadName" (dVar 0)) (aCons (dExn "BadIndex" (dVar 0)) (aCons (dExn "BadBook" (dVar 0)) aNil)))))))) (tgName 4))
    (dSeq (dAsg (dBin addD (dVar 4) (dKeep false (dLim (aCons (dExn "BadOther" (dVar 0)) (aCons (dExn "Unlike" (dVar 0)) (aCons (dExn "BadWays" (dVar 0)) (aCons (dExn "BadClasses" (dVar 0)) (aCons (dExn "BadType" (dVar 0)) aNil)))))))) (tgName 4))
    (dSeq (dAsg (dBin addD (dVar 4) (dKeep false (dLim (aCons (dExn "BadTypes" (dVar 0)) (aCons (dExn "BadGoal" (dVar 0)) (aCons (dExn "BadMany" (dVar 0)) (aCons (dExn "BadGoals" (dVar 0)) (aCons (dExn "BadGivens" (dVar 0)) aNil)))))))) (tgName 4))
    (dSeq (dAsg (dBin addD (dVar 4) (dKeep false (dLim (aCons (dExn "BadRoad" (dVar 0)) (aCons (dExn "BadRoads" (dVar 0)) (aCons (dExn "BadTables" (dVar 0)) (aCons (dExn "BadShape" (dVar 0)) (aCons (dExn "BadGroup" (dVar 0)) aNil)))))))) (tgName 4))
    (dSeq (dAsg (dBin addD (dVar 4) (dKeep false (dLim (aCons (dExn "BadPlace" (dVar 0)) (aCons (dExn "BadMarks" (dVar 0)) (aCons (dExn "BadArgs" (dVar 0)) (aCons (dExn "BadWords" (dVar 0)) (aCons (dExn "HasClasses" (dVar 0)) aNil)))))))) (tgName 4))
    (dSeq (dAsg (dBin addD (dVar 4) (dKeep false (dLim (aCons (dExn "BadLimit" (dVar 0)) (aCons (dExn "TooGreat" (dVar 0)) (aCons (dExn "Endless" (dVar 0)) (aCons (dExn "NotEnding" (dVar 0)) aNil))))))) (tgName 4))
    (dRet (dVar 4)))))))))
theorem o__law_made {w : World} {K : PySem.W.Frag} {mg : Str → Option Value} {base : Heap} {k : Nat} {S : Nat → Sem1} {f : Addr} {fd : FuncData} (F : Fx K mg) (C : Cs w K mg base k S) (U : FunD K "_law_made" "_law_made" (defArgs s__law_made) (defBody s__law_made) (defScope s__law_made) [] [] f fd) :
    FnOk prog w K mg base (L2.CX prog w) (k + 1) f fd ["words", "place", "what", "index"] (spF K mg 4 (runFn 5 (b__law_made S))) := by
  refine fn_okD U sc__law_made rfl fun cdv A outer s H E hr => ?_
  have hN := sc__law_made.nd
  have tk : Takes (cxOf (L2.CX prog w) prog w K mg base ["words", "place", "what", "index", "found"] "_law_made" (defScope s__law_made) f cdv A outer s H E) (fun c d _ H => E c d H) := takes_of rfl rfl rfl rfl
  exact (mss_cons (gSet 4 hN (me_keep false (mf_lst (gC1 (gSup F.s_BadText sb_place hr F.z_super (gV 1)) (gC1 (gSup F.s_NotChecked sb_what hr F.z_super (gV 2)) (gC1 (gSup F.s_NotGood sb_what hr F.z_super (gV 2)) (gC1 (gSup F.s_NotTyped sb_what hr F.z_super (gV 2)) (gC1 (gSup F.s_NotJoined sb_what hr F.z_super (gV 2)) ma_nil))))))))
    (mss_cons (gSet 4 hN (me_bin op_addF (gV 4) (me_keep false (mf_lst (gC1 (gSup F.s_Untyped sb_group hr F.z_super (gV 3)) (gC1 (gExn F.e_BadProgram (gV 0)) (gC1 (gExn F.e_BadName (gV 0)) (gC1 (gExn F.e_BadIndex (gV 0)) (gC1 (gExn F.e_BadBook (gV 0)) ma_nil)))))))))
    (mss_cons (gSet 4 hN (me_bin op_addF (gV 4) (me_keep false (mf_lst (gC1 (gExn F.e_BadOther (gV 0)) (gC1 (gExn F.e_Unlike (gV 0)) (gC1 (gExn F.e_BadWays (gV 0)) (gC1 (gExn F.e_BadClasses (gV 0)) (gC1 (gExn F.e_BadType (gV 0)) ma_nil)))))))))
    (mss_cons (gSet 4 hN (me_bin op_addF (gV 4) (me_keep false (mf_lst (gC1 (gExn F.e_BadTypes (gV 0)) (gC1 (gExn F.e_BadGoal (gV 0)) (gC1 (gExn F.e_BadMany (gV 0)) (gC1 (gExn F.e_BadGoals (gV 0)) (gC1 (gExn F.e_BadGivens (gV 0)) ma_nil)))))))))
    (mss_cons (gSet 4 hN (me_bin op_addF (gV 4) (me_keep false (mf_lst (gC1 (gExn F.e_BadRoad (gV 0)) (gC1 (gExn F.e_BadRoads (gV 0)) (gC1 (gExn F.e_BadTables (gV 0)) (gC1 (gExn F.e_BadShape (gV 0)) (gC1 (gExn F.e_BadGroup (gV 0)) ma_nil)))))))))
    (mss_cons (gSet 4 hN (me_bin op_addF (gV 4) (me_keep false (mf_lst (gC1 (gExn F.e_BadPlace (gV 0)) (gC1 (gExn F.e_BadMarks (gV 0)) (gC1 (gExn F.e_BadArgs (gV 0)) (gC1 (gExn F.e_BadWords (gV 0)) (gC1 (gExn F.e_HasClasses (gV 0)) ma_nil)))))))))
    (mss_cons (gSet 4 hN (me_bin op_addF (gV 4) (me_keep false (mf_lst (gC1 (gExn F.e_BadLimit (gV 0)) (gC1 (gExn F.e_TooGreat (gV 0)) (gC1 (gExn F.e_Endless (gV 0)) (gC1 (gExn F.e_NotEnding (gV 0)) ma_nil))))))))
    (mss_one (ms_ret (gV 4))))))))))
/-! ### law -/
abbrev s_law : Stmt := top 46
theorem sc_law : FnScope ["script", "urn", "words", "place", "index", "what", "made", "k", "at", "base", "fields"] ["script"] (defScope s_law) := ⟨rfl, rfl, rfl, by decide +kernel, rfl, by decide +kernel, by decide +kernel⟩
noncomputable def b_law (S : Nat → Sem1) : DS :=
  (dSeq (dAsg (dCall 1 (S 0) (aCons (dVar 0) aNil)) (tgName 1))
    (dSeq (dAsg (dBin addD (dBin addD (dCall 2 (S 5) (aCons (dVar 1) (aCons (dKeep true (dLim aNil)) aNil))) (dLit (.str " "))) (dCall 2 (S 6) (aCons (dVar 1) (aCons (dKeep true (dLim aNil)) aNil)))) (tgName 2))
    (dSeq (dAsg2 3 4 (aCons (dCall 2 (S 1) (aCons (dVar 1) (aCons (dBin powD (dLit (.int 10)) (dLit (.int 6))) aNil))) (aCons (dCall 2 (S 1) (aCons (dVar 1) (aCons (dLit (.int 400)) aNil))) aNil)))
    (dSeq (dAsg (dBin ixD (dTup (aCons (dTup (aCons (dVar 2) (aCons (dLit .non) aNil))) (aCons (dTup (aCons (dVar 2) (aCons (dVar 3) (aCons (dTup (aCons (dLit (.str "use")) (aCons (dVar 4) aNil))) aNil)))) (aCons (dTup (aCons (dSlice (dVar 2) oNone (oSome (dLit (.int 3)))) (aCons (dVar 2) aNil))) aNil)))) (dCall 2 (S 1) (aCons (dVar 1) (aCons (dLit (.int 3)) aNil)))) (tgName 5))
    (dSeq (dAsg (dCall 4 (S 8) (aCons (dVar 2) (aCons (dVar 3) (aCons (dVar 5) (aCons (dVar 4) aNil))))) (tgName 6))
    (dSeq (dFor (dRg rg1 (aCons (dCB lenD (aCons (dVar 6) aNil)) aNil)) (tgName 7) (dSeq (dIfS (tOrD (tNotD (tVal (dIsX clsL (fun _ => true) (dBin ixD (dVar 6) (dVar 7))))) (tNotD (tVal (dIsX clsL (fun _ => true) (dBin ixD (dVar 6) (dVar 7)))))) (dRet (dLit (.bl false))) dNext)
    (dIfS (tCmpD neB (dCall 1 (S 7) (aCons (dBin ixD (dVar 6) (dVar 7)) aNil)) (dKeep false (dLc (dRg rg1 (aCons (dCB lenD (aCons (dVar 6) aNil)) aNil)) (tgName 8) dYes (one1 (dBin eqD (dVar 8) (dVar 7))) (([("at", 8)] : List (Str × Nat)).map (·.2))))) (dRet (dLit (.bl false))) dNext)))
    (dSeq (dAsg (dExn "ChoiceError" (dVar 2)) (tgName 9))
    (dSeq (dIfS (tOrD (tNotD (tVal (dIsX clsL (fun _ => true) (dVar 9)))) (tCmpD neB (dCall 1 (S 7) (aCons (dVar 9) aNil)) (dBin mulD (dKeep false (dLim (aCons (dLit (.bl false)) aNil))) (dCB lenD (aCons (dVar 6) aNil))))) (dRet (dLit (.bl false))) dNext)
    (dSeq (dAsg (dTup (aCons (dFx clsL "place" (dBin ixD (dVar 6) (dLit (.int 0)))) (aCons (dFx clsL "what" (dBin ixD (dVar 6) (dLit (.int 1)))) (aCons (dFx clsL "what" (dBin ixD (dVar 6) (dLit (.int 2)))) (aCons (dFx clsL "what" (dBin ixD (dVar 6) (dLit (.int 3)))) (aCons (dFx clsL "what" (dBin ixD (dVar 6) (dLit (.int 4)))) (aCons (dFx clsL "group" (dBin ixD (dVar 6) (dLit (.int 5)))) aNil))))))) (tgName 10))
    (dSeq (dIfS (tNotD (tVal (dCall 2 (S 2) (aCons (dVar 10) (aCons (dTup (aCons (dVar 3) (aCons (dVar 5) (aCons (dVar 5) (aCons (dVar 5) (aCons (dVar 5) (aCons (dVar 4) aNil))))))) aNil))))) (dRet (dLit (.bl false))) dNext)
    (dSeq (dAsg (dTup (aCons (dFx clsL "place" (dExf "BadText" "place" (dVar 4))) (aCons (dFx clsL "what" (dExf "NotChecked" "what" (dVar 5))) (aCons (dFx clsL "group" (dExf "Untyped" "group" (dVar 3))) aNil)))) (tgName 10))
    (dSeq (dIfS (tNotD (tVal (dCall 2 (S 2) (aCons (dVar 10) (aCons (dTup (aCons (dVar 4) (aCons (dVar 5) (aCons (dVar 3) aNil)))) aNil))))) (dRet (dLit (.bl false))) dNext)
    (dRet (dCall 2 (S 2) (aCons (dTup (aCons (dFx clsL "what" (dExf "NotGood" "what" (dVar 5))) (aCons (dFx clsL "what" (dExf "NotTyped" "what" (dVar 5))) (aCons (dFx clsL "what" (dExf "NotJoined" "what" (dVar 5))) aNil)))) (aCons (dBin mulD (dTup (aCons (dVar 5) aNil)) (dLit (.int 3))) aNil))))))))))))))))
theorem o_law {w : World} {K : PySem.W.Frag} {mg : Str → Option Value} {base : Heap} {k : Nat} {S : Nat → Sem1} {f : Addr} {fd : FuncData} (F : Fx K mg) (C : Cs w K mg base k S) (U : FunD K "law" "law" (defArgs s_law) (defBody s_law) (defScope s_law) [] [] f fd) :
    FnOk prog w K mg base (L2.CX prog w) (k + 1) f fd ["script"] (spF K mg 1 (runFn 11 (b_law S))) := by
  refine fn_okD U sc_law rfl fun cdv A outer s H E hr => ?_
  have hN := sc_law.nd
  have tk : Takes (cxOf (L2.CX prog w) prog w K mg base ["script", "urn", "words", "place", "index", "what", "made", "k", "at", "base", "fields"] "law" (defScope s_law) f cdv A outer s H E) (fun c d _ H => E c d H) := takes_of rfl rfl rfl rfl
  exact (mss_cons (gSet 1 hN (gCall (C.c__law_urn) hr tk (gC1 (gV 0) ma_nil)))
    (mss_cons (gSet 2 hN (me_bin op_addF (me_bin op_addF (gCall (C.c__law_low) hr tk (gC1 (gV 1) (gC1 (me_keep true (mf_lst ma_nil)) ma_nil))) me_str) (gCall (C.c__law_high) hr tk (gC1 (gV 1) (gC1 (me_keep true (mf_lst ma_nil)) ma_nil)))))
    (mss_cons (gPar 3 4 rfl hN (gC1 (gCall (C.c__law_ball) hr tk (gC1 (gV 1) (gC1 (me_bin op_powF me_int me_int) ma_nil))) (gC1 (gCall (C.c__law_ball) hr tk (gC1 (gV 1) (gC1 me_int ma_nil))) ma_nil)))
    (mss_cons (gSet 5 hN (gIx hr (me_tup (gC1 (me_tup (gC1 (gV 2) (gC1 me_non ma_nil))) (gC1 (me_tup (gC1 (gV 2) (gC1 (gV 3) (gC1 (me_tup (gC1 me_str (gC1 (gV 4) ma_nil))) ma_nil)))) (gC1 (me_tup (gC1 (me_slice (gV 2) mo_none (mo_some me_int)) (gC1 (gV 2) ma_nil))) ma_nil)))) (gCall (C.c__law_ball) hr tk (gC1 (gV 1) (gC1 me_int ma_nil)))))
    (mss_cons (gSet 6 hN (gCall (C.c__law_made) hr tk (gC1 (gV 2) (gC1 (gV 3) (gC1 (gV 5) (gC1 (gV 4) ma_nil))))))
    (mss_cons (gFor (passes_of rfl) rfl (mi_range1 (by rfl) F.z_range (gC1 (gBlt (cr_lenF) F.z_len boot_len (gC1 (gV 6) ma_nil)) ma_nil)) (gN 7 hN) (mss_cons (ms_if (mt_bool (mw_or (mt_not (gTv (gIsX F.xc F.k_ChoiceError F.m_ChoiceError F.z_isinstance (gIx hr (gV 6) (gV 7))))) (mw_or1 (mt_not (gTv (gIsV F.xc F.k_ValueError F.z_ValueError (by decide +kernel) F.z_isinstance (gIx hr (gV 6) (gV 7)))))))) (mss_one (ms_ret me_bl)) mss_nil)
    (mss_one (ms_if (gTc (op_neF hr) (gCall (C.c__law_classes) hr tk (gC1 (gIx hr (gV 6) (gV 7)) ma_nil)) (me_keep false (mf_lc (own := [("at", 8)]) rfl hN (mi_range1 (by rfl) F.z_range (gC1 (gBlt (cr_lenF) F.z_len boot_len (gC1 (gV 6) ma_nil)) ma_nil)) (blkOk_by (by kernel_rfl)) (by decide) (fun _ _ _ _ _ => (gN 8 hN)) (fun _ _ _ _ _ => mts_nil) (fun _ _ _ _ _ => (gCmp (op_eqF hr) (gV 8) (gV 7)))))) (mss_one (ms_ret me_bl)) mss_nil))))
    (mss_cons (gSet 9 hN (gExn F.e_ChoiceError (gV 2)))
    (mss_cons (ms_if (mt_bool (mw_or (mt_not (gTv (gIsV F.xc F.k_ValueError F.z_ValueError (by decide +kernel) F.z_isinstance (gV 9)))) (mw_or1 (gTc (op_neF hr) (gCall (C.c__law_classes) hr tk (gC1 (gV 9) ma_nil)) (me_bin op_mulF (me_keep false (mf_lst (gC1 me_bl ma_nil))) (gBlt (cr_lenF) F.z_len boot_len (gC1 (gV 6) ma_nil))))))) (mss_one (ms_ret me_bl)) mss_nil)
    (mss_cons (gSet 10 hN (me_tup (gC1 (gFx F.xc F.n_place (gIx hr (gV 6) me_int)) (gC1 (gFx F.xc F.n_what (gIx hr (gV 6) me_int)) (gC1 (gFx F.xc F.n_what (gIx hr (gV 6) me_int)) (gC1 (gFx F.xc F.n_what (gIx hr (gV 6) me_int)) (gC1 (gFx F.xc F.n_what (gIx hr (gV 6) me_int)) (gC1 (gFx F.xc F.n_group (gIx hr (gV 6) me_int)) ma_nil))))))))
    (mss_cons (ms_if (mt_not (gTv (gCall (C.c__law_same) hr tk (gC1 (gV 10) (gC1 (me_tup (gC1 (gV 3) (gC1 (gV 5) (gC1 (gV 5) (gC1 (gV 5) (gC1 (gV 5) (gC1 (gV 4) ma_nil))))))) ma_nil))))) (mss_one (ms_ret me_bl)) mss_nil)
    (mss_cons (gSet 10 hN (me_tup (gC1 (gFx F.xc F.n_place (gSupK F.s_BadText sb_place hr F.z_super (gV 4))) (gC1 (gFx F.xc F.n_what (gSupK F.s_NotChecked sb_what hr F.z_super (gV 5))) (gC1 (gFx F.xc F.n_group (gSupK F.s_Untyped sb_group hr F.z_super (gV 3))) ma_nil)))))
    (mss_cons (ms_if (mt_not (gTv (gCall (C.c__law_same) hr tk (gC1 (gV 10) (gC1 (me_tup (gC1 (gV 4) (gC1 (gV 5) (gC1 (gV 3) ma_nil)))) ma_nil))))) (mss_one (ms_ret me_bl)) mss_nil)
    (mss_one (ms_ret (gCall (C.c__law_same) hr tk (gC1 (me_tup (gC1 (gFx F.xc F.n_what (gSupK F.s_NotGood sb_what hr F.z_super (gV 5))) (gC1 (gFx F.xc F.n_what (gSupK F.s_NotTyped sb_what hr F.z_super (gV 5))) (gC1 (gFx F.xc F.n_what (gSupK F.s_NotJoined sb_what hr F.z_super (gV 5))) ma_nil)))) (gC1 (me_bin op_mulF (me_tup (gC1 (gV 5) ma_nil)) me_int) ma_nil)))))))))))))))))
end K00
end

section
set_option maxHeartbeats 0
namespace K00
open PySem PySem.Spec L2 MP
noncomputable def sem : Nat → Nat → Sem1
  | 0, _ => fun _ _ => none
  | n + 1, 0 => runFn 3 (b__law_urn (sem n))
  | n + 1, 1 => runFn 3 (b__law_ball (sem n))
  | n + 1, 2 => runFn 3 (b__law_same (sem n))
  | n + 1, 3 => runFn 0 (b__law_reserved (sem n))
  | n + 1, 4 => runFn 6 (b__law_name (sem n))
  | n + 1, 5 => runFn 2 (b__law_low (sem n))
  | n + 1, 6 => runFn 2 (b__law_high (sem n))
  | n + 1, 7 => runFn 2 (b__law_classes (sem n))
  | n + 1, 8 => runFn 5 (b__law_made (sem n))
  | n + 1, 9 => runFn 11 (b_law (sem n))
  | _ + 1, _ => fun _ _ => none
structure Ds (K : PySem.W.Frag) (mg : Str → Option Value) : Prop where
  d__law_urn : DefF K mg "_law_urn" s__law_urn ["script"]
  d__law_ball : DefF K mg "_law_ball" s__law_ball ["urn", "many"]
  d__law_same : DefF K mg "_law_same" s__law_same ["found", "owed"]
  d__law_reserved : DefF K mg "_law_reserved" s__law_reserved []
  d__law_name : DefF K mg "_law_name" s__law_name ["urn", "first", "used"]
  d__law_low : DefF K mg "_law_low" s__law_low ["urn", "used"]
  d__law_high : DefF K mg "_law_high" s__law_high ["urn", "used"]
  d__law_classes : DefF K mg "_law_classes" s__law_classes ["e"]
  d__law_made : DefF K mg "_law_made" s__law_made ["words", "place", "what", "index"]
  d_law : DefF K mg "law" s_law ["script"]
theorem all {w : World} {K : PySem.W.Frag} {mg : Str → Option Value} {base : Heap} (F : Fx K mg) (D : Ds K mg) : ∀ n, Cs w K mg base (n + 1) (sem n)
  | 0 => ⟨D.d__law_urn.cal fun _ _ => fnOk_none, D.d__law_ball.cal fun _ _ => fnOk_none, D.d__law_same.cal fun _ _ => fnOk_none, D.d__law_reserved.cal fun _ _ => fnOk_none, D.d__law_name.cal fun _ _ => fnOk_none, D.d__law_low.cal fun _ _ => fnOk_none, D.d__law_high.cal fun _ _ => fnOk_none, D.d__law_classes.cal fun _ _ => fnOk_none, D.d__law_made.cal fun _ _ => fnOk_none, D.d_law.cal fun _ _ => fnOk_none⟩
  | n + 1 => ⟨D.d__law_urn.cal fun _ U => o__law_urn F (all F D n) U, D.d__law_ball.cal fun _ U => o__law_ball F (all F D n) U, D.d__law_same.cal fun _ U => o__law_same F (all F D n) U, D.d__law_reserved.cal fun _ U => o__law_reserved F (all F D n) U, D.d__law_name.cal fun _ U => o__law_name F (all F D n) U, D.d__law_low.cal fun _ U => o__law_low F (all F D n) U, D.d__law_high.cal fun _ U => o__law_high F (all F D n) U, D.d__law_classes.cal fun _ U => o__law_classes F (all F D n) U, D.d__law_made.cal fun _ U => o__law_made F (all F D n) U, D.d_law.cal fun _ U => o_law F (all F D n) U⟩
/-! ### the head -/
def freeL : List Str := (["ValueError", "bool", "int", "isinstance", "len", "range", "str", "super", "tuple"] : List String).map Str.ofString
def gloL : List Str := (["_law_urn", "_law_ball", "_law_same", "_law_reserved", "_law_name", "_law_low", "_law_high", "_law_classes", "_law_made", "law", "ChoiceError", "BadProgram", "BadName", "BadIndex", "BadBook", "BadOther", "Unlike", "BadWays", "BadClasses", "BadType", "BadTypes", "BadGoal", "BadMany", "BadGoals", "BadGivens", "BadRoad", "BadRoads", "BadTables", "BadShape", "BadGroup", "BadPlace", "BadMarks", "BadArgs", "BadWords", "HasClasses", "BadLimit", "TooGreat", "Endless", "NotEnding", "BadText", "NotChecked", "NotGood", "Untyped", "NotTyped", "NotJoined"] : List String).map Str.ofString
def fa : List He.Fa := freeL.map He.Fa.free ++ gloL.map He.Fa.glo
def dd__law_urn : He.DefD := ⟨("_law_urn", none), "_law_urn", "_law_urn", defArgs s__law_urn, defBody s__law_urn, defScope s__law_urn, [], []⟩
def dd__law_ball : He.DefD := ⟨("_law_ball", none), "_law_ball", "_law_ball", defArgs s__law_ball, defBody s__law_ball, defScope s__law_ball, [], []⟩
def dd__law_same : He.DefD := ⟨("_law_same", none), "_law_same", "_law_same", defArgs s__law_same, defBody s__law_same, defScope s__law_same, [], []⟩
def dd__law_reserved : He.DefD := ⟨("_law_reserved", none), "_law_reserved", "_law_reserved", defArgs s__law_reserved, defBody s__law_reserved, defScope s__law_reserved, [], []⟩
def dd__law_name : He.DefD := ⟨("_law_name", none), "_law_name", "_law_name", defArgs s__law_name, defBody s__law_name, defScope s__law_name, [], []⟩
def dd__law_low : He.DefD := ⟨("_law_low", none), "_law_low", "_law_low", defArgs s__law_low, defBody s__law_low, defScope s__law_low, [], []⟩
def dd__law_high : He.DefD := ⟨("_law_high", none), "_law_high", "_law_high", defArgs s__law_high, defBody s__law_high, defScope s__law_high, [], []⟩
def dd__law_classes : He.DefD := ⟨("_law_classes", none), "_law_classes", "_law_classes", defArgs s__law_classes, defBody s__law_classes, defScope s__law_classes, [], []⟩
def dd__law_made : He.DefD := ⟨("_law_made", none), "_law_made", "_law_made", defArgs s__law_made, defBody s__law_made, defScope s__law_made, [], []⟩
def dd_law : He.DefD := ⟨("law", none), "law", "law", defArgs s_law, defBody s_law, defScope s_law, [], []⟩
def fn : List He.DefD := [dd__law_urn, dd__law_ball, dd__law_same, dd__law_reserved, dd__law_name, dd__law_low, dd__law_high, dd__law_classes, dd__law_made, dd_law]
def zz_BadText : InitD := ⟨"BadText", "place", "BadText.__init__", "not a text of this sort", ⟨⟨62, 17, 62, 21⟩, ⟨62, 23, 62, 28⟩, ⟨63, 8, 63, 13⟩, ⟨63, 8, 63, 15⟩, ⟨63, 8, 63, 24⟩, ⟨63, 25, 63, 50⟩, ⟨63, 8, 63, 51⟩, ⟨63, 8, 63, 51⟩, ⟨64, 8, 64, 12⟩, ⟨64, 8, 64, 18⟩, ⟨64, 21, 64, 26⟩, ⟨64, 8, 64, 26⟩⟩⟩
theorem zl_BadText : SupLine zz_BadText.fld zz_BadText.txt zz_BadText.z := ⟨fun _ => ⟨_, rfl⟩, fun _ => rfl, fun _ => rfl⟩
def zz_NotChecked : InitD := ⟨"NotChecked", "what", "NotChecked.__init__", "something is wrong with the names", ⟨⟨67, 17, 67, 21⟩, ⟨67, 23, 67, 27⟩, ⟨68, 8, 68, 13⟩, ⟨68, 8, 68, 15⟩, ⟨68, 8, 68, 24⟩, ⟨68, 25, 68, 60⟩, ⟨68, 8, 68, 61⟩, ⟨68, 8, 68, 61⟩, ⟨69, 8, 69, 12⟩, ⟨69, 8, 69, 17⟩, ⟨69, 20, 69, 24⟩, ⟨69, 8, 69, 24⟩⟩⟩
theorem zl_NotChecked : SupLine zz_NotChecked.fld zz_NotChecked.txt zz_NotChecked.z := ⟨fun _ => ⟨_, rfl⟩, fun _ => rfl, fun _ => rfl⟩
def zz_NotGood : InitD := ⟨"NotGood", "what", "NotGood.__init__", "the book is not good", ⟨⟨72, 17, 72, 21⟩, ⟨72, 23, 72, 27⟩, ⟨73, 8, 73, 13⟩, ⟨73, 8, 73, 15⟩, ⟨73, 8, 73, 24⟩, ⟨73, 25, 73, 47⟩, ⟨73, 8, 73, 48⟩, ⟨73, 8, 73, 48⟩, ⟨74, 8, 74, 12⟩, ⟨74, 8, 74, 17⟩, ⟨74, 20, 74, 24⟩, ⟨74, 8, 74, 24⟩⟩⟩
theorem zl_NotGood : SupLine zz_NotGood.fld zz_NotGood.txt zz_NotGood.z := ⟨fun _ => ⟨_, rfl⟩, fun _ => rfl, fun _ => rfl⟩
def zz_Untyped : InitD := ⟨"Untyped", "group", "Untyped.__init__", "a group has no told typing", ⟨⟨77, 17, 77, 21⟩, ⟨77, 23, 77, 28⟩, ⟨78, 8, 78, 13⟩, ⟨78, 8, 78, 15⟩, ⟨78, 8, 78, 24⟩, ⟨78, 25, 78, 53⟩, ⟨78, 8, 78, 54⟩, ⟨78, 8, 78, 54⟩, ⟨79, 8, 79, 12⟩, ⟨79, 8, 79, 18⟩, ⟨79, 21, 79, 26⟩, ⟨79, 8, 79, 26⟩⟩⟩
theorem zl_Untyped : SupLine zz_Untyped.fld zz_Untyped.txt zz_Untyped.z := ⟨fun _ => ⟨_, rfl⟩, fun _ => rfl, fun _ => rfl⟩
def zz_NotTyped : InitD := ⟨"NotTyped", "what", "NotTyped.__init__", "the program has no typing", ⟨⟨82, 17, 82, 21⟩, ⟨82, 23, 82, 27⟩, ⟨83, 8, 83, 13⟩, ⟨83, 8, 83, 15⟩, ⟨83, 8, 83, 24⟩, ⟨83, 25, 83, 52⟩, ⟨83, 8, 83, 53⟩, ⟨83, 8, 83, 53⟩, ⟨84, 8, 84, 12⟩, ⟨84, 8, 84, 17⟩, ⟨84, 20, 84, 24⟩, ⟨84, 8, 84, 24⟩⟩⟩
theorem zl_NotTyped : SupLine zz_NotTyped.fld zz_NotTyped.txt zz_NotTyped.z := ⟨fun _ => ⟨_, rfl⟩, fun _ => rfl, fun _ => rfl⟩
def zz_NotJoined : InitD := ⟨"NotJoined", "what", "NotJoined.__init__", "the books do not go together", ⟨⟨87, 17, 87, 21⟩, ⟨87, 23, 87, 27⟩, ⟨88, 8, 88, 13⟩, ⟨88, 8, 88, 15⟩, ⟨88, 8, 88, 24⟩, ⟨88, 25, 88, 55⟩, ⟨88, 8, 88, 56⟩, ⟨88, 8, 88, 56⟩, ⟨89, 8, 89, 12⟩, ⟨89, 8, 89, 17⟩, ⟨89, 20, 89, 24⟩, ⟨89, 8, 89, 24⟩⟩⟩
theorem zl_NotJoined : SupLine zz_NotJoined.fld zz_NotJoined.txt zz_NotJoined.z := ⟨fun _ => ⟨_, rfl⟩, fun _ => rfl, fun _ => rfl⟩
def zs : List InitD := [zz_BadText, zz_NotChecked, zz_NotGood, zz_Untyped, zz_NotTyped, zz_NotJoined]
def kitsL : List (Str × (Str → Bool)) := ((["BadProgram", "BadName", "BadIndex", "BadBook", "BadOther", "Unlike", "BadWays", "BadClasses", "BadType", "BadTypes", "BadGoal", "BadMany", "BadGoals", "BadGivens", "BadRoad", "BadRoads", "BadTables", "BadShape", "BadGroup", "BadPlace", "BadMarks", "BadArgs", "BadWords", "HasClasses", "BadLimit", "TooGreat", "Endless", "NotEnding", "BadText", "NotChecked", "NotGood", "Untyped", "NotTyped", "NotJoined"] : List String).map fun x => (Str.ofString x, fun (y : Str) => y == Str.ofString x))
def plainL : List Str := (["ChoiceError", "BadProgram", "BadName", "BadIndex", "BadBook", "BadOther", "Unlike", "BadWays", "BadClasses", "BadType", "BadTypes", "BadGoal", "BadMany", "BadGoals", "BadGivens", "BadRoad", "BadRoads", "BadTables", "BadShape", "BadGroup", "BadPlace", "BadMarks", "BadArgs", "BadWords", "HasClasses", "BadLimit", "TooGreat", "Endless", "NotEnding"] : List String).map Str.ofString
def ex (K : PySem.W.Frag) : Bool := clsL.all (xcB K) && (kitL K clsL (.type "ValueError") (fun _ => true) && (kitL K clsL (.ref (He.ga K "ChoiceError")) (fun _ => true) && (kitsL.all (fun q => kitL K clsL (.ref (He.ga K q.1)) q.2) && (plainL.all (exnB K) && (zs.all (fun d => supB K prog.main.file d.cls d.fld) && (noatL K clsL "group" && noatL K clsL "place" && noatL K clsL "what"))))))
abbrev R : PySem.W.OpenRow := PySem.W.OpenLaw.row PySem.Challenge.rw_waychosen_k00_errors
abbrev hk : PySem.W.Hook := hookM 6 fa fn zs ex
def ob (s : PySem.W.SharedT) : AlM := obsMG 6 fa fn zs ex (HandSHeadRun.getT s)
theorem ob_eq (s : PySem.W.SharedT) : ob s = hk.obs s.abs := obsMG_eq (HandSHeadRun.getT_eq s)
def loose : List Str := (["ChoiceError", "BadProgram", "BadName", "BadIndex", "BadBook", "BadOther", "Unlike", "BadWays", "BadClasses", "BadType", "BadTypes", "BadGoal", "BadMany", "BadGoals", "BadGivens", "BadRoad", "BadRoads", "BadTables", "BadShape", "BadGroup", "BadPlace", "BadMarks", "BadArgs", "BadWords", "HasClasses", "BadLimit", "TooGreat", "Endless", "NotEnding", "BadText", "NotChecked", "NotGood", "Untyped", "NotTyped", "NotJoined", "_law_urn", "_law_ball", "_law_same", "_law_reserved", "_law_name", "_law_low", "_law_high", "_law_classes", "_law_made"] : List String).map Str.ofString
theorem run (w : World) : HandSHeadRun.RunEq R (PySem.W.view R.prog [46]) hk ob 12000 loose w := by
  intro os
  kernel_rfl
theorem facts {K : PySem.W.Frag} {h : Heap} {mg : Str → Option Value} (X : K.In h) (G : h.Ns mainGlobals mg) (c : SaysM fa fn zs ex K) : Fx K mg ∧ Ds K mg := by
  have fr : ∀ x : Str, x ∈ freeL → mg x = none := fun x hx => He.free_ok X G (c.d.facts (List.mem_append_left _ (List.mem_map_of_mem hx)))
  have gl : ∀ x : Str, x ∈ gloL → mg x = some (.ref (He.ga K x)) := fun x hx => He.glo_ok X G (c.d.facts (List.mem_append_right _ (List.mem_map_of_mem hx)))
  have x0 := c.x
  unfold ex at x0
  simp only [Bool.and_eq_true] at x0
  obtain ⟨x1, x2, x3, x4, x5, x6, ⟨y0, y1⟩, y2⟩ := x0
  have ki : ∀ q ∈ kitsL, kitL K clsL (.ref (He.ga K q.1)) q.2 = true := List.all_eq_true.mp x4
  have pl : ∀ c ∈ plainL, exnB K c = true := List.all_eq_true.mp x5
  have su : ∀ d ∈ zs, supB K prog.main.file d.cls d.fld = true := List.all_eq_true.mp x6
  refine ⟨{
    xc := xcL_of x1,
    k_ValueError := x2,
    k_ChoiceError := x3,
    z_ValueError := fr _ (by decide),
    z_bool := fr _ (by decide),
    z_int := fr _ (by decide),
    z_isinstance := fr _ (by decide),
    z_len := fr _ (by decide),
    z_range := fr _ (by decide),
    z_str := fr _ (by decide),
    z_super := fr _ (by decide),
    z_tuple := fr _ (by decide),
    m_ChoiceError := gl _ (by decide),
    m_BadProgram := gl _ (by decide),
    k_BadProgram := ki ("BadProgram", fun y => y == "BadProgram") (by simp [kitsL]),
    m_BadName := gl _ (by decide),
    k_BadName := ki ("BadName", fun y => y == "BadName") (by simp [kitsL]),
    m_BadIndex := gl _ (by decide),
    k_BadIndex := ki ("BadIndex", fun y => y == "BadIndex") (by simp [kitsL]),
    m_BadBook := gl _ (by decide),
    k_BadBook := ki ("BadBook", fun y => y == "BadBook") (by simp [kitsL]),
    m_BadOther := gl _ (by decide),
    k_BadOther := ki ("BadOther", fun y => y == "BadOther") (by simp [kitsL]),
    m_Unlike := gl _ (by decide),
    k_Unlike := ki ("Unlike", fun y => y == "Unlike") (by simp [kitsL]),
    m_BadWays := gl _ (by decide),
    k_BadWays := ki ("BadWays", fun y => y == "BadWays") (by simp [kitsL]),
    m_BadClasses := gl _ (by decide),
    k_BadClasses := ki ("BadClasses", fun y => y == "BadClasses") (by simp [kitsL]),
    m_BadType := gl _ (by decide),
    k_BadType := ki ("BadType", fun y => y == "BadType") (by simp [kitsL]),
    m_BadTypes := gl _ (by decide),
    k_BadTypes := ki ("BadTypes", fun y => y == "BadTypes") (by simp [kitsL]),
    m_BadGoal := gl _ (by decide),
    k_BadGoal := ki ("BadGoal", fun y => y == "BadGoal") (by simp [kitsL]),
    m_BadMany := gl _ (by decide),
    k_BadMany := ki ("BadMany", fun y => y == "BadMany") (by simp [kitsL]),
    m_BadGoals := gl _ (by decide),
    k_BadGoals := ki ("BadGoals", fun y => y == "BadGoals") (by simp [kitsL]),
    m_BadGivens := gl _ (by decide),
    k_BadGivens := ki ("BadGivens", fun y => y == "BadGivens") (by simp [kitsL]),
    m_BadRoad := gl _ (by decide),
    k_BadRoad := ki ("BadRoad", fun y => y == "BadRoad") (by simp [kitsL]),
    m_BadRoads := gl _ (by decide),
    k_BadRoads := ki ("BadRoads", fun y => y == "BadRoads") (by simp [kitsL]),
    m_BadTables := gl _ (by decide),
    k_BadTables := ki ("BadTables", fun y => y == "BadTables") (by simp [kitsL]),
    m_BadShape := gl _ (by decide),
    k_BadShape := ki ("BadShape", fun y => y == "BadShape") (by simp [kitsL]),
    m_BadGroup := gl _ (by decide),
    k_BadGroup := ki ("BadGroup", fun y => y == "BadGroup") (by simp [kitsL]),
    m_BadPlace := gl _ (by decide),
    k_BadPlace := ki ("BadPlace", fun y => y == "BadPlace") (by simp [kitsL]),
    m_BadMarks := gl _ (by decide),
    k_BadMarks := ki ("BadMarks", fun y => y == "BadMarks") (by simp [kitsL]),
    m_BadArgs := gl _ (by decide),
    k_BadArgs := ki ("BadArgs", fun y => y == "BadArgs") (by simp [kitsL]),
    m_BadWords := gl _ (by decide),
    k_BadWords := ki ("BadWords", fun y => y == "BadWords") (by simp [kitsL]),
    m_HasClasses := gl _ (by decide),
    k_HasClasses := ki ("HasClasses", fun y => y == "HasClasses") (by simp [kitsL]),
    m_BadLimit := gl _ (by decide),
    k_BadLimit := ki ("BadLimit", fun y => y == "BadLimit") (by simp [kitsL]),
    m_TooGreat := gl _ (by decide),
    k_TooGreat := ki ("TooGreat", fun y => y == "TooGreat") (by simp [kitsL]),
    m_Endless := gl _ (by decide),
    k_Endless := ki ("Endless", fun y => y == "Endless") (by simp [kitsL]),
    m_NotEnding := gl _ (by decide),
    k_NotEnding := ki ("NotEnding", fun y => y == "NotEnding") (by simp [kitsL]),
    m_BadText := gl _ (by decide),
    k_BadText := ki ("BadText", fun y => y == "BadText") (by simp [kitsL]),
    m_NotChecked := gl _ (by decide),
    k_NotChecked := ki ("NotChecked", fun y => y == "NotChecked") (by simp [kitsL]),
    m_NotGood := gl _ (by decide),
    k_NotGood := ki ("NotGood", fun y => y == "NotGood") (by simp [kitsL]),
    m_Untyped := gl _ (by decide),
    k_Untyped := ki ("Untyped", fun y => y == "Untyped") (by simp [kitsL]),
    m_NotTyped := gl _ (by decide),
    k_NotTyped := ki ("NotTyped", fun y => y == "NotTyped") (by simp [kitsL]),
    m_NotJoined := gl _ (by decide),
    k_NotJoined := ki ("NotJoined", fun y => y == "NotJoined") (by simp [kitsL]),
    e_ChoiceError := ExnF.of X G (pl _ (by decide)),
    e_BadProgram := ExnF.of X G (pl _ (by decide)),
    e_BadName := ExnF.of X G (pl _ (by decide)),
    e_BadIndex := ExnF.of X G (pl _ (by decide)),
    e_BadBook := ExnF.of X G (pl _ (by decide)),
    e_BadOther := ExnF.of X G (pl _ (by decide)),
    e_Unlike := ExnF.of X G (pl _ (by decide)),
    e_BadWays := ExnF.of X G (pl _ (by decide)),
    e_BadClasses := ExnF.of X G (pl _ (by decide)),
    e_BadType := ExnF.of X G (pl _ (by decide)),
    e_BadTypes := ExnF.of X G (pl _ (by decide)),
    e_BadGoal := ExnF.of X G (pl _ (by decide)),
    e_BadMany := ExnF.of X G (pl _ (by decide)),
    e_BadGoals := ExnF.of X G (pl _ (by decide)),
    e_BadGivens := ExnF.of X G (pl _ (by decide)),
    e_BadRoad := ExnF.of X G (pl _ (by decide)),
    e_BadRoads := ExnF.of X G (pl _ (by decide)),
    e_BadTables := ExnF.of X G (pl _ (by decide)),
    e_BadShape := ExnF.of X G (pl _ (by decide)),
    e_BadGroup := ExnF.of X G (pl _ (by decide)),
    e_BadPlace := ExnF.of X G (pl _ (by decide)),
    e_BadMarks := ExnF.of X G (pl _ (by decide)),
    e_BadArgs := ExnF.of X G (pl _ (by decide)),
    e_BadWords := ExnF.of X G (pl _ (by decide)),
    e_HasClasses := ExnF.of X G (pl _ (by decide)),
    e_BadLimit := ExnF.of X G (pl _ (by decide)),
    e_TooGreat := ExnF.of X G (pl _ (by decide)),
    e_Endless := ExnF.of X G (pl _ (by decide)),
    e_NotEnding := ExnF.of X G (pl _ (by decide)),
    s_BadText := SupF.of (d := zz_BadText) X G (su _ (by simp [zs])) (c.z (by simp [zs])) zl_BadText (by decide),
    s_NotChecked := SupF.of (d := zz_NotChecked) X G (su _ (by simp [zs])) (c.z (by simp [zs])) zl_NotChecked (by decide),
    s_NotGood := SupF.of (d := zz_NotGood) X G (su _ (by simp [zs])) (c.z (by simp [zs])) zl_NotGood (by decide),
    s_Untyped := SupF.of (d := zz_Untyped) X G (su _ (by simp [zs])) (c.z (by simp [zs])) zl_Untyped (by decide),
    s_NotTyped := SupF.of (d := zz_NotTyped) X G (su _ (by simp [zs])) (c.z (by simp [zs])) zl_NotTyped (by decide),
    s_NotJoined := SupF.of (d := zz_NotJoined) X G (su _ (by simp [zs])) (c.z (by simp [zs])) zl_NotJoined (by decide),
    n_group := y0,
    n_place := y1,
    n_what := y2 }, ?_⟩
  refine ⟨⟨gl _ (by decide), c.d.defs (d := dd__law_urn) (by simp [fn]), fun _ _ _ _ _ _ us hl => ?_⟩, ⟨gl _ (by decide), c.d.defs (d := dd__law_ball) (by simp [fn]), fun _ _ _ _ _ _ us hl => ?_⟩, ⟨gl _ (by decide), c.d.defs (d := dd__law_same) (by simp [fn]), fun _ _ _ _ _ _ us hl => ?_⟩, ⟨gl _ (by decide), c.d.defs (d := dd__law_reserved) (by simp [fn]), fun _ _ _ _ _ _ us hl => ?_⟩, ⟨gl _ (by decide), c.d.defs (d := dd__law_name) (by simp [fn]), fun _ _ _ _ _ _ us hl => ?_⟩, ⟨gl _ (by decide), c.d.defs (d := dd__law_low) (by simp [fn]), fun _ _ _ _ _ _ us hl => ?_⟩, ⟨gl _ (by decide), c.d.defs (d := dd__law_high) (by simp [fn]), fun _ _ _ _ _ _ us hl => ?_⟩, ⟨gl _ (by decide), c.d.defs (d := dd__law_classes) (by simp [fn]), fun _ _ _ _ _ _ us hl => ?_⟩, ⟨gl _ (by decide), c.d.defs (d := dd__law_made) (by simp [fn]), fun _ _ _ _ _ _ us hl => ?_⟩, ⟨gl _ (by decide), c.d.defs (d := dd_law) (by simp [fn]), fun _ _ _ _ _ _ us hl => ?_⟩⟩
  · exact match us, hl with | [_], _ => rfl
  · exact match us, hl with | [_, _], _ => rfl
  · exact match us, hl with | [_, _], _ => rfl
  · exact match us, hl with | [], _ => rfl
  · exact match us, hl with | [_, _, _], _ => rfl
  · exact match us, hl with | [_, _], _ => rfl
  · exact match us, hl with | [_, _], _ => rfl
  · exact match us, hl with | [_], _ => rfl
  · exact match us, hl with | [_, _, _, _], _ => rfl
  · exact match us, hl with | [_], _ => rfl
end K00
end

section
set_option maxHeartbeats 4000000
/-! LawA: how a printed body is worked out. -/
namespace MP
open PySem PySem.Spec L2
theorem bE_val {α β : Type} (a : α) (h : AH) (k : α → AH → Mo β) : bE (some (.val a, h)) k = k a h := rfl
theorem bS_val {α : Type} (a : α) (h : AH) (env : En) (k : α → AH → Option (Fl × En × AH)) : bS (some (.val a, h)) env k = k a h := rfl
theorem bE_ite {α β : Type} (c : Prop) [Decidable c] (x y : Mo α) (k : α → AH → Mo β) : bE (if c then x else y) k = if c then bE x k else bE y k := by split <;> rfl
theorem dSeq_nx {a b : DS} {env e1 : En} {hp h1 : AH} (h : a env hp = some (.next, e1, h1)) : dSeq a b env hp = b e1 h1 := by simp only [dSeq, h]
theorem dSeq_rt {a b : DS} {env e1 : En} {hp h1 : AH} {d : D} (h : a env hp = some (.ret d, e1, h1)) : dSeq a b env hp = some (.ret d, e1, h1) := by simp only [dSeq, h]
theorem trim_same {n : Nat} {r : Out D} {hp : AH} (h : hp.length = n) : trim n r hp = hp := by
  unfold trim
  split
  · rw [← h, List.take_length]
  · rfl
theorem runFn_g {ns : Nat} {b : DS} {xs : List D} {hp h1 : AH} {f : Fl} {e1 : En} {r : Out D} (hx : D.pures xs = false) (h : b (startE ns xs) hp = some (f, e1, h1)) (hf : flOut f = some r) (hl : h1.length = hp.length) : runFn ns b xs hp = some (r, h1) := by
  unfold runFn
  rw [hx]
  simp only [Bool.false_eq_true, if_false, runG, h, hf]
  rw [trim_same hl]
theorem runFn_p {ns : Nat} {b : DS} {xs : List D} {hp h1 : AH} {e1 : En} {d : D} (hx : D.pures xs = true) (h : b (startE ns xs) [] = some (.ret d, e1, h1)) (hd : d.pure = true) : runFn ns b xs hp = some (.val d, hp) := by
  unfold runFn
  rw [hx]
  simp only [if_true, runP, h, flOut, hd]
theorem at4_0 {x y z w : D} : atI [x, y, z, w] 0 = some x := rfl
theorem at4_1 {x y z w : D} : atI [x, y, z, w] 1 = some y := rfl
theorem at4_2 {x y z w : D} : atI [x, y, z, w] 2 = some z := rfl
theorem at4_3 {x y z w : D} : atI [x, y, z, w] 3 = some w := rfl
theorem ix4_1 {x y z w : D} : ixN [x, y, z, w].length 1 = some 1 := rfl
theorem ix4_2 {x y z w : D} : ixN [x, y, z, w].length 2 = some 2 := rfl
theorem ix4_3 {x y z w : D} : ixN [x, y, z, w].length 3 = some 3 := rfl
theorem eqB_int (hp : AH) (i j : Int) : eqB hp (.int i) (.int j) = some (decide (i = j)) := by
  simp only [eqB, sv, scal, if_true]
  congr 1
  by_cases h : i = j <;> simp [h]
theorem neB_int (hp : AH) (i j : Int) : neB hp (.int i) (.int j) = some (!decide (i = j)) := by simp only [neB, eqB_int, Option.map_some]
theorem goods_int : ∀ (cs : List Int) (n : Nat), D.goods (D.good n) (cs.map .int) = true
  | [], _ => rfl
  | c :: cs, n => by
    simp only [List.map_cons, D.goods, goods_int cs n, Bool.and_true]
    cases n <;> rfl
theorem atI_at {α : Type} {xs : List α} {i : Int} (h0 : 0 ≤ i) (h1 : i < xs.length) : ∃ x, x ∈ xs ∧ xs[i.toNat]? = some x ∧ atI xs i = some x := by
  have hn : i.toNat < xs.length := by omega
  refine ⟨xs[i.toNat], List.getElem_mem hn, List.getElem?_eq_getElem hn, ?_⟩
  simp only [atI, ixN, h0, h1, if_true, Option.bind_some, List.getElem?_eq_getElem hn]
end MP
namespace K00
open PySem PySem.Spec L2 MP
/-- the urn as it stands -/
def UH (cs : List Int) (a m t : Int) (r : AH) : AH := .lst (cs.map .int) :: .lst [.ref 0, .int a, .int m, .int t] :: r
structure UI (T : Int) (cs : List Int) (a m t : Int) : Prop where
  cs : ∀ c ∈ cs, (1000000000000000000 : Int) ≤ c
  a : 0 ≤ a
  m : 0 ≤ m ∧ m < 2147483647
  t : 0 ≤ t ∧ t ≤ T
theorem UI.more {T T' : Int} {cs : List Int} {a m t : Int} (h : UI T cs a m t) (e : T ≤ T') : UI T' cs a m t := ⟨h.cs, h.a, h.m, h.t.1, Int.le_trans h.t.2 e⟩
theorem pow_18 (hp : AH) : powD hp (.int 10) (.int 18) = some (.int 1000000000000000000) := rfl
theorem pow_6 (hp : AH) : powD hp (.int 10) (.int 6) = some (.int 1000000) := rfl
theorem ne_nil (cs : List Int) (r : AH) : neB (.lst (cs.map .int) :: r) (.ref 0) (.vls []) = some (!cs.isEmpty) := by
  simp only [neB, eqB, sv, eqDeep, D.see, List.getElem?_cons_zero, deepest, D.good, goods_int, D.goods, Bool.and_self, if_true, Option.map_some]
  cases cs <;> rfl
theorem ball_1 (S : Nat → Sem1) {T : Int} {cs : List Int} {a m t n : Int} {r : AH} (I : UI T cs a m t) : ∃ cs' a', UI T cs' a' m t ∧
    (dIfS (tAndD (tCmpD eqB (dBin ixD (dVar 0) (dLit (.int 1))) (dLit (.int 0))) (tCmpD neB (dBin ixD (dVar 0) (dLit (.int 0))) (dKeep false (dLim aNil)))) (dAsg (dBin subD (dM .list popM (dBin ixD (dVar 0) (dLit (.int 0))) (aCons (dLit (.int 0)) aNil)) (dBin powD (dLit (.int 10)) (dLit (.int 18)))) (tgSub (dVar 0) (dLit (.int 1)))) dNext)
    [some (.ref 1), some (.int n), none] (UH cs a m t r) = some (.next, [some (.ref 1), some (.int n), none], UH cs' a' m t r) := by
  by_cases ha : a = 0
  · subst ha
    cases cs with
    | nil =>
      refine ⟨[], 0, I, ?_⟩
      unfold UH
      have e2 := ne_nil []
      simp only [List.map_nil] at e2
      simp only [dAsg, dAsg2, dRet, dDrop, dIfS, dNext, dLit, dVar, aNil, aCons, dTup, dBin, tCmpD, tAndD, tOrD, tNotD, tVal, dAnd, dOr, dNot, truD, dCB, dM, dCall, dCall0, dKeep, dNew, dFrz, dLim, tgSub, tgName, dSlice, oNone, oSome, dSrc, dFor, dRg, bE_val, bS_val, isTy, lstOf, lstOfR, lstAt, ixD, ixSeq, setD, popM, appendM, intF, dIsA, isA, List.getElem?_cons_zero, List.getElem?_cons_succ, List.set_cons_zero, List.set_cons_succ, at4_0, at4_1, at4_2, at4_3, ix4_1, ix4_2, ix4_3, List.length_nil, Nat.zero_le, Option.map_some, Option.bind_some, Option.isSome_some, if_true, if_false, Bool.false_eq_true, ite_true, ite_false, eqB_int, decide_true, List.map_nil, e2, List.isEmpty_nil, Bool.not_true]
    | cons c cs =>
      have hc := I.cs c (List.mem_cons_self ..)
      refine ⟨cs, c - 1000000000000000000, ⟨fun x hx => I.cs x (List.mem_cons_of_mem _ hx), by omega, I.m, I.t⟩, ?_⟩
      have e3 : seqIndex? 0 (D.int c :: cs.map .int).length = some 0 := by
        unfold seqIndex?
        simp
      have e5 : popM.small63 0 = true := rfl
      have e2 := ne_nil (c :: cs) 
      simp only [List.map_cons] at e2
      unfold UH
      simp only [dAsg, dAsg2, dRet, dDrop, dIfS, dNext, dLit, dVar, aNil, aCons, dTup, dBin, tCmpD, tAndD, tOrD, tNotD, tVal, dAnd, dOr, dNot, truD, dCB, dM, dCall, dCall0, dKeep, dNew, dFrz, dLim, tgSub, tgName, dSlice, oNone, oSome, dSrc, dFor, dRg, bE_val, bS_val, isTy, lstOf, lstOfR, lstAt, ixD, ixSeq, setD, popM, appendM, intF, dIsA, isA, List.getElem?_cons_zero, List.getElem?_cons_succ, List.set_cons_zero, List.set_cons_succ, at4_0, at4_1, at4_2, at4_3, ix4_1, ix4_2, ix4_3, List.length_nil, Nat.zero_le, Option.map_some, Option.bind_some, Option.isSome_some, if_true, if_false, Bool.false_eq_true, ite_true, ite_false, eqB_int, decide_true, pow_18, e2, List.isEmpty_cons, Bool.not_false, List.map_cons, e3, e5, subD, List.eraseIdx_cons_zero]
  · refine ⟨cs, a, I, ?_⟩
    unfold UH
    simp only [dAsg, dAsg2, dRet, dDrop, dIfS, dNext, dLit, dVar, aNil, aCons, dTup, dBin, tCmpD, tAndD, tOrD, tNotD, tVal, dAnd, dOr, dNot, truD, dCB, dM, dCall, dCall0, dKeep, dNew, dFrz, dLim, tgSub, tgName, dSlice, oNone, oSome, dSrc, dFor, dRg, bE_val, bS_val, isTy, lstOf, lstOfR, lstAt, ixD, ixSeq, setD, popM, appendM, intF, dIsA, isA, List.getElem?_cons_zero, List.getElem?_cons_succ, List.set_cons_zero, List.set_cons_succ, at4_0, at4_1, at4_2, at4_3, ix4_1, ix4_2, ix4_3, List.length_nil, Nat.zero_le, Option.map_some, Option.bind_some, Option.isSome_some, if_true, if_false, Bool.false_eq_true, ite_true, ite_false, eqB_int, ha, decide_false]
theorem ball_2 (S : Nat → Sem1) {cs : List Int} {a m t n : Int} {r : AH} (hm : 0 ≤ m ∧ m < 2147483647) (ht : 0 ≤ t ∧ t < 4294967296) (h0 : 0 < n) (h1 : n < 1073741824) (ha : ¬ 0 < a) : ∃ x m',
    (dSeq (dIfS (tCmpD gtB (dBin ixD (dVar 0) (dLit (.int 1))) (dLit (.int 0))) (dSeq (dAsg (dBin modD (dCB intF (aCons (dBin ixD (dVar 0) (dLit (.int 1))) aNil)) (dVar 1)) (tgName 2))
    (dSeq (dAsg (dBin fdivD (dBin ixD (dVar 0) (dLit (.int 1))) (dVar 1)) (tgSub (dVar 0) (dLit (.int 1))))
    (dRet (dVar 2)))) dNext)
    (dSeq (dAsg (dBin addD (dBin ixD (dVar 0) (dLit (.int 3))) (dLit (.int 1))) (tgSub (dVar 0) (dLit (.int 3))))
    (dSeq (dAsg (dBin modD (dCB intF (aCons (dBin addD (dBin addD (dBin mulD (dBin ixD (dVar 0) (dLit (.int 2))) (dLit (.int 69621))) (dBin mulD (dBin mulD (dBin ixD (dVar 0) (dLit (.int 3))) (dBin ixD (dVar 0) (dLit (.int 3)))) (dLit (.int 40014)))) (dLit (.int 91))) aNil)) (dLit (.int 2147483563))) (tgSub (dVar 0) (dLit (.int 2))))
    (dRet (dBin modD (dBin fdivD (dBin modD (dCB intF (aCons (dBin mulD (dBin ixD (dVar 0) (dLit (.int 2))) (dBin addD (dBin fdivD (dBin ixD (dVar 0) (dLit (.int 2))) (dLit (.int 64))) (dLit (.int 7)))) aNil)) (dLit (.int 2147483399))) (dLit (.int 16))) (dVar 1))))))
    [some (.ref 1), some (.int n), none] (UH cs a m t r) = some (.ret (.int x), [some (.ref 1), some (.int n), none], UH cs a m' (t + 1) r) ∧ 0 ≤ x ∧ x < n ∧ 0 ≤ m' ∧ m' < 2147483647 := by
  obtain ⟨u, hu⟩ : ∃ u, u = (m * 69621 + (t + 1) * (t + 1) * 40014 + 91) % 2147483563 := ⟨_, rfl⟩
  have hu0 : 0 ≤ u ∧ u < 2147483563 := by
    rw [hu]
    exact ⟨Int.emod_nonneg _ (by decide), Int.emod_lt_of_pos _ (by decide)⟩
  refine ⟨u * (u / 64 + 7) % 2147483399 / 16 % n, u, ?_, ?_⟩
  · have h1' : ∀ i : Int, mulOk i 69621 = true := fun i => by simp [mulOk]
    have h2' : ∀ i : Int, mulOk i 40014 = true := fun i => by simp [mulOk]
    have h3 : mulOk (t + 1) (t + 1) = true := by
      simp only [mulOk, Bool.or_eq_true, Bool.and_eq_true, decide_eq_true_eq]
      omega
    have h4 : ∀ j : Int, mulOk u j = true := fun j => by
      simp only [mulOk, Bool.or_eq_true, Bool.and_eq_true, decide_eq_true_eq]
      omega
    unfold UH
    simp only [dAsg, dAsg2, dRet, dDrop, dIfS, dNext, dLit, dVar, aNil, aCons, dTup, dBin, tCmpD, tAndD, tOrD, tNotD, tVal, dAnd, dOr, dNot, truD, dCB, dM, dCall, dCall0, dKeep, dNew, dFrz, dLim, tgSub, tgName, dSlice, oNone, oSome, dSrc, dFor, dRg, bE_val, bS_val, isTy, lstOf, lstOfR, lstAt, ixD, ixSeq, setD, popM, appendM, intF, dIsA, isA, List.getElem?_cons_zero, List.getElem?_cons_succ, List.set_cons_zero, List.set_cons_succ, at4_0, at4_1, at4_2, at4_3, ix4_1, ix4_2, ix4_3, List.length_nil, Nat.zero_le, Option.map_some, Option.bind_some, Option.isSome_some, if_true, if_false, Bool.false_eq_true, ite_true, ite_false, dSeq, gtB, intB, ha, decide_false, addD, mulD, modD, fdivD, h1', h2', h3, ← hu, h4, h0, h1, and_self, Int.reduceLT]
  · refine ⟨Int.emod_nonneg _ (by omega), Int.emod_lt_of_pos _ h0, by omega, by omega⟩
theorem ball_ok (S : Nat → Sem1) {T : Int} {cs : List Int} {a m t n : Int} {r : AH} (I : UI T cs a m t) (hT : T < 4294967296) (h0 : 0 < n) (h1 : n < 1073741824) : ∃ x cs' a' m' t', runFn 3 (b__law_ball S) [.ref 1, .int n] (UH cs a m t r) = some (.val (.int x), UH cs' a' m' t' r) ∧ 0 ≤ x ∧ x < n ∧ UI (T + 1) cs' a' m' t' := by
  obtain ⟨cs1, a1, I1, q1⟩ := ball_1 S (n := n) (r := r) I
  have st : startE 3 [.ref 1, .int n] = [some (.ref 1), some (.int n), none] := rfl
  by_cases ha : 0 < a1
  · refine ⟨a1 % n, cs1, a1 / n, m, t, ?_, Int.emod_nonneg _ (by omega), Int.emod_lt_of_pos _ h0, ⟨I1.cs, Int.ediv_nonneg I1.a (by omega), I1.m, I1.t.1, by have := I1.t.2; omega⟩⟩
    refine runFn_g (e1 := [some (.ref 1), some (.int n), some (.int (a1 % n))]) (f := .ret (.int (a1 % n))) rfl ?_ rfl (by simp [UH])
    rw [st]
    unfold b__law_ball
    rw [dSeq_nx q1]
    refine dSeq_rt ?_
    unfold UH
    simp only [dAsg, dAsg2, dRet, dDrop, dIfS, dNext, dLit, dVar, aNil, aCons, dTup, dBin, tCmpD, tAndD, tOrD, tNotD, tVal, dAnd, dOr, dNot, truD, dCB, dM, dCall, dCall0, dKeep, dNew, dFrz, dLim, tgSub, tgName, dSlice, oNone, oSome, dSrc, dFor, dRg, bE_val, bS_val, isTy, lstOf, lstOfR, lstAt, ixD, ixSeq, setD, popM, appendM, intF, dIsA, isA, List.getElem?_cons_zero, List.getElem?_cons_succ, List.set_cons_zero, List.set_cons_succ, at4_0, at4_1, at4_2, at4_3, ix4_1, ix4_2, ix4_3, List.length_nil, Nat.zero_le, Option.map_some, Option.bind_some, Option.isSome_some, if_true, if_false, Bool.false_eq_true, ite_true, ite_false, gtB, intB, ha, decide_true, dSeq, modD, h0, fdivD, h1, and_self]
  · have ht := I1.t
    obtain ⟨x, m', q2, p1, p2, p3, p4⟩ := ball_2 S (cs := cs1) (r := r) I1.m ⟨ht.1, by omega⟩ h0 h1 ha
    refine ⟨x, cs1, a1, m', t + 1, ?_, p1, p2, ⟨I1.cs, I1.a, ⟨p3, p4⟩, by omega, by omega⟩⟩
    refine runFn_g (e1 := [some (.ref 1), some (.int n), none]) (f := .ret (.int x)) rfl ?_ rfl (by simp [UH])
    rw [st]
    unfold b__law_ball
    rw [dSeq_nx q1]
    exact q2
end K00
end

section
set_option maxHeartbeats 4000000
/-! LawB: the urn's making, the names. -/
namespace MP
open PySem PySem.Spec L2
theorem runFn_pg {ns : Nat} {b : DS} {xs : List D} {h1 : AH} {e1 : En} {d : D} (hx : D.pures xs = true) (h : b (startE ns xs) [] = some (.ret d, e1, h1)) (hd : d.pure = false) : runFn ns b xs [] = some (.val d, trim 0 (.val d) h1) := by
  unfold runFn
  rw [hx]
  simp only [if_true, runP, h, flOut, hd, Bool.false_eq_true, if_false, runG]
  rfl
theorem geB_int (hp : AH) (i j : Int) : geB hp (.int i) (.int j) = some (decide (j ≤ i)) := rfl
theorem pures_int : ∀ cs : List Int, D.pures (cs.map .int) = true
  | [] => rfl
  | c :: cs => by simp only [List.map_cons, D.pures, D.pure, pures_int cs, Bool.and_self]
theorem cut_all {xs : List D} {k : Int} (hk : 0 ≤ k) (h : xs.length ≤ k.toNat) : cutL xs none (some k) = xs := by
  refine cut_whole ⟨rfl, ?_⟩
  show (if k < 0 then _ else min k.toNat xs.length) = _
  rw [if_neg (by omega)]
  omega
end MP
namespace K00
open PySem PySem.Spec L2 MP
theorem urn_mix (S : Nat → Sem1) (s : D) (hp : AH) : ∀ (ns : List Int) (m : Int) (o : Option D), 0 ≤ m → m < 2147483647 → ∃ m' o', 0 ≤ m' ∧ m' < 2147483647 ∧
    forL (tgName 2) (dAsg (dBin modD (dCB intF (aCons (dBin addD (dBin addD (dBin mulD (dVar 1) (dLit (.int 48271))) (dBin modD (dCB intF (aCons (dVar 2) aNil)) (dLit (.int 2147483629)))) (dLit (.int 13))) aNil)) (dLit (.int 2147483647))) (tgName 1)) (ns.map .int) [some s, some (.int m), o] hp = some (.next, [some s, some (.int m'), o'], hp)
  | [], m, o, h0, h1 => ⟨m, o, h0, h1, rfl⟩
  | n :: ns, m, o, h0, h1 => by
    obtain ⟨u, hu⟩ : ∃ u, u = (m * 48271 + n % 2147483629 + 13) % 2147483647 := ⟨_, rfl⟩
    have hu0 : 0 ≤ u ∧ u < 2147483647 := by
      rw [hu]
      exact ⟨Int.emod_nonneg _ (by decide), Int.emod_lt_of_pos _ (by decide)⟩
    obtain ⟨m', o', q0, q1, q⟩ := urn_mix S s hp ns u (some (.int n)) hu0.1 hu0.2
    refine ⟨m', o', q0, q1, ?_⟩
    have h1' : ∀ i : Int, mulOk i 48271 = true := fun i => by simp [mulOk]
    rw [← q]
    simp only [List.map_cons, forL]
    simp only [dAsg, dAsg2, dRet, dDrop, dIfS, dNext, dLit, dVar, aNil, aCons, dTup, dBin, tCmpD, tAndD, tOrD, tNotD, tVal, dAnd, dOr, dNot, truD, dCB, dM, dCall, dCall0, dKeep, dNew, dFrz, dLim, tgSub, tgName, dSlice, oNone, oSome, dSrc, dFor, dRg, bE_val, bS_val, isTy, lstOf, lstOfR, lstAt, ixD, ixSeq, setD, popM, appendM, intF, dIsA, isA, List.getElem?_cons_zero, List.getElem?_cons_succ, List.set_cons_zero, List.set_cons_succ, at4_0, at4_1, at4_2, at4_3, ix4_1, ix4_2, ix4_3, List.length_nil, Nat.zero_le, Option.map_some, Option.bind_some, Option.isSome_some, if_true, if_false, Bool.false_eq_true, ite_true, ite_false, addD, mulD, modD, h1', Int.reduceLT, ← hu, aft]
theorem urn_cells (S : Nat → Sem1) (s x : D) (hp : AH) : ∀ (ns : List Int), ∃ cs : List Int, (∀ c ∈ cs, (1000000000000000000 : Int) ≤ c) ∧ cs.length ≤ ns.length ∧
    lcL (tgName 2) (tCmpD geB (dVar 2) (dBin powD (dLit (.int 10)) (dLit (.int 18)))) (one1 (dCB intF (aCons (dVar 2) aNil))) [some s, some x, none] (ns.map .int) hp = some (cs.map .int, hp)
  | [] => ⟨[], by simp, by simp, rfl⟩
  | n :: ns => by
    obtain ⟨cs, q0, q1, q⟩ := urn_cells S s x hp ns
    by_cases h : (1000000000000000000 : Int) ≤ n
    · refine ⟨n :: cs, ?_, by simp only [List.length_cons]; omega, ?_⟩
      · intro c hc
        rcases List.mem_cons.mp hc with rfl | hc
        · exact h
        · exact q0 c hc
      · simp only [List.map_cons, lcL]
        simp only [dAsg, dAsg2, dRet, dDrop, dIfS, dNext, dLit, dVar, aNil, aCons, dTup, dBin, tCmpD, tAndD, tOrD, tNotD, tVal, dAnd, dOr, dNot, truD, dCB, dM, dCall, dCall0, dKeep, dNew, dFrz, dLim, tgSub, tgName, dSlice, oNone, oSome, dSrc, dFor, dRg, bE_val, bS_val, isTy, lstOf, lstOfR, lstAt, ixD, ixSeq, setD, popM, appendM, intF, dIsA, isA, List.getElem?_cons_zero, List.getElem?_cons_succ, List.set_cons_zero, List.set_cons_succ, at4_0, at4_1, at4_2, at4_3, ix4_1, ix4_2, ix4_3, List.length_nil, Nat.zero_le, Option.map_some, Option.bind_some, Option.isSome_some, if_true, if_false, Bool.false_eq_true, ite_true, ite_false, pow_18, geB_int, h, decide_true, one1, q]
        rfl
    · refine ⟨cs, q0, by simp only [List.length_cons]; omega, ?_⟩
      simp only [List.map_cons, lcL]
      simp only [dAsg, dAsg2, dRet, dDrop, dIfS, dNext, dLit, dVar, aNil, aCons, dTup, dBin, tCmpD, tAndD, tOrD, tNotD, tVal, dAnd, dOr, dNot, truD, dCB, dM, dCall, dCall0, dKeep, dNew, dFrz, dLim, tgSub, tgName, dSlice, oNone, oSome, dSrc, dFor, dRg, bE_val, bS_val, isTy, lstOf, lstOfR, lstAt, ixD, ixSeq, setD, popM, appendM, intF, dIsA, isA, List.getElem?_cons_zero, List.getElem?_cons_succ, List.set_cons_zero, List.set_cons_succ, at4_0, at4_1, at4_2, at4_3, ix4_1, ix4_2, ix4_3, List.length_nil, Nat.zero_le, Option.map_some, Option.bind_some, Option.isSome_some, if_true, if_false, Bool.false_eq_true, ite_true, ite_false, pow_18, geB_int, h, decide_false, one1, q]
theorem urn_ok (S : Nat → Sem1) {ns : List Int} (hl : ns.length ≤ 63) : ∃ cs m, runFn 3 (b__law_urn S) [.rls (ns.map .int)] [] = some (.val (.ref 1), UH cs 0 m 0 []) ∧ UI 0 cs 0 m 0 := by
  obtain ⟨m, o, p0, p1, p⟩ := urn_mix S (.rls (ns.map .int)) [] ns 41 none (by decide) (by decide)
  obtain ⟨cs, q0, q1, q⟩ := urn_cells S (.rls (ns.map .int)) (.int m) [] ns
  refine ⟨cs, m, ?_, ⟨q0, by decide, ⟨p0, p1⟩, by decide⟩⟩
  have hc : cutL (ns.map D.int) none (some 63) = ns.map .int := cut_all (by decide) (by simpa using hl)
  have st : startE 3 [.rls (ns.map .int)] = [some (.rls (ns.map .int)), none, none] := rfl
  have hlim : cs.length ≤ lim := by simp only [lim]; omega
  refine (runFn_pg (e1 := [some (.rls (ns.map .int)), some (.int m), o]) (h1 := UH cs 0 m 0 []) (d := .ref 1) ?_ ?_ rfl).trans rfl
  · simp only [D.pures, D.pure, pures_int, Bool.and_self]
  · rw [st]
    unfold b__law_urn
    rw [dSeq_nx (e1 := [some (.rls (ns.map .int)), some (.int 41), none]) (h1 := []) rfl]
    rw [dSeq_nx (e1 := [some (.rls (ns.map .int)), some (.int m), o]) (h1 := [])]
    · simp only [dAsg, dAsg2, dRet, dDrop, dIfS, dNext, dLit, dVar, aNil, aCons, dTup, dBin, tCmpD, tAndD, tOrD, tNotD, tVal, dAnd, dOr, dNot, truD, dCB, dM, dCall, dCall0, dKeep, dNew, dFrz, dLim, tgSub, tgName, dSlice, oNone, oSome, dSrc, dFor, dRg, bE_val, bS_val, isTy, lstOf, lstOfR, lstAt, ixD, ixSeq, setD, popM, appendM, intF, dIsA, isA, List.getElem?_cons_zero, List.getElem?_cons_succ, List.set_cons_zero, List.set_cons_succ, at4_0, at4_1, at4_2, at4_3, ix4_1, ix4_2, ix4_3, List.length_nil, Nat.zero_le, Option.map_some, Option.bind_some, Option.isSome_some, if_true, if_false, Bool.false_eq_true, ite_true, ite_false, dLc, sliceD, hc, srcOf, lcRun, List.map_cons, List.map_nil, wipeE, q, List.length_map, hlim, List.length_cons]
      rw [if_pos (by decide)]
      rfl
    · simp only [dAsg, dAsg2, dRet, dDrop, dIfS, dNext, dLit, dVar, aNil, aCons, dTup, dBin, tCmpD, tAndD, tOrD, tNotD, tVal, dAnd, dOr, dNot, truD, dCB, dM, dCall, dCall0, dKeep, dNew, dFrz, dLim, tgSub, tgName, dSlice, oNone, oSome, dSrc, dFor, dRg, bE_val, bS_val, isTy, lstOf, lstOfR, lstAt, ixD, ixSeq, setD, popM, appendM, intF, dIsA, isA, List.getElem?_cons_zero, List.getElem?_cons_succ, List.set_cons_zero, List.set_cons_succ, at4_0, at4_1, at4_2, at4_3, ix4_1, ix4_2, ix4_3, List.length_nil, Nat.zero_le, Option.map_some, Option.bind_some, Option.isSome_some, if_true, if_false, Bool.false_eq_true, ite_true, ite_false, sliceD, hc, srcOf, p]
theorem strOk_app {s t : Str} (hs : PyData.strOk s = true) (ht : PyData.strOk t = true) : PyData.strOk (s ++ t) = true := by
  have e : (s ++ t).cps = s.cps ++ t.cps := rfl
  unfold PyData.strOk at *
  rw [e]
  simp_all
theorem len_app (s t : Str) : (s ++ t).length = s.length + t.length := by
  show (s.cps ++ t.cps).size = _
  rw [Array.size_append]
  rfl
theorem strOk_cut {s : Str} (hs : PyData.strOk s = true) (lo hi : Option Int) : PyData.strOk (cutS s lo hi) = true := by
  unfold PyData.strOk cutS at *
  simp only [Array.all_eq_true_iff_forall_mem, List.mem_toArray] at *
  intro x hx
  exact hs x (Array.mem_toList_iff.mp (List.mem_of_mem_drop (List.mem_of_mem_take hx)))
theorem len_cut (s : Str) (lo hi : Option Int) : (cutS s lo hi).length ≤ s.length := by
  show (List.toArray _).size ≤ _
  rw [List.size_toArray]
  have := List.length_take_le' (HT.sIx s.length s.length hi - HT.sIx s.length 0 lo) (List.drop (HT.sIx s.length 0 lo) s.cps.toList)
  rw [List.length_drop] at this
  have e : s.cps.toList.length = s.length := Array.length_toList
  omega
/-- a letter of a text -/
theorem ixD_letter {s : Str} {i : Int} (hp : AH) (hs : PyData.strOk s = true) (hl : s.length ≤ lim) (h0 : 0 ≤ i) (h1 : i < s.length) : ∃ t : Str, ixD hp (.str s) (.int i) = some (.str t) ∧ PyData.strOk t = true ∧ t.length = 1 := by
  have hn : i.toNat < s.cps.toList.length := by
    have e : s.cps.toList.length = s.length := Array.length_toList
    omega
  obtain ⟨c, hc, _, e⟩ := atI_at (xs := s.cps.toList) h0 (by omega)
  refine ⟨⟨#[c]⟩, ?_, ?_, rfl⟩
  · simp only [ixD, hl, if_true, e, Option.map_some]
  · unfold PyData.strOk at *
    simp only [Array.all_eq_true_iff_forall_mem] at hs
    have := hs c (Array.mem_toList_iff.mp hc)
    simpa using this
end K00
end

section
set_option maxHeartbeats 4000000
/-! LawC: the names. -/
namespace K00
open PySem PySem.Spec L2 MP
/-- a draw below n -/
def Ball (g : Sem1) : Prop := ∀ {T : Int} {cs : List Int} {a m t : Int} (n : Int) (r : AH), UI T cs a m t → T < 4294967296 → 0 < n → n < 1073741824 →
  ∃ x cs' a' m' t', g [.ref 1, .int n] (UH cs a m t r) = some (.val (.int x), UH cs' a' m' t' r) ∧ 0 ≤ x ∧ x < n ∧ UI (T + 1) cs' a' m' t'
theorem ball_fn (S : Nat → Sem1) : Ball (runFn 3 (b__law_ball S)) := fun k r I hT h0 h1 => ball_ok S I hT h0 h1
theorem name_tail {g : Sem1} (B : Ball g) {f u : Option D} {tl : Str} (h62 : tl.length = 62) (htl : PyData.strOk tl = true) (r : AH) : ∀ (ds : List D) {T : Int} {cs : List Int} {a m t : Int} {nm : Str} {o : Option D}, UI T cs a m t → T + ds.length < 4294967296 → PyData.strOk nm = true → nm.length + ds.length ≤ 1000 →
  ∃ nm' cs' a' m' t' o', forL (tgName 5) (dAsg (dBin addD (dVar 4) (dBin ixD (dVar 3) (dCall 2 g (aCons (dVar 0) (aCons (dLit (.int 62)) aNil))))) (tgName 4)) ds [some (.ref 1), f, u, some (.str tl), some (.str nm), o] (UH cs a m t r) = some (.next, [some (.ref 1), f, u, some (.str tl), some (.str nm'), o'], UH cs' a' m' t' r) ∧
    PyData.strOk nm' = true ∧ nm'.length ≤ nm.length + ds.length ∧ UI (T + ds.length) cs' a' m' t'
  | [], T, cs, a, m, t, nm, o, I, hT, hs, hl => ⟨nm, cs, a, m, t, o, rfl, hs, by simp, by simpa using I⟩
  | d :: ds, T, cs, a, m, t, nm, o, I, hT, hs, hl => by
    simp only [List.length_cons] at hT hl
    obtain ⟨x, cs1, a1, m1, t1, q, x0, x1, I1⟩ := B 62 r I (by omega) (by decide) (by decide)
    obtain ⟨c, e1, e2, e3⟩ := ixD_letter (UH cs1 a1 m1 t1 r) htl (by rw [h62]; decide) x0 (by rw [h62]; exact x1)
    obtain ⟨nm', cs', a', m', t', o', p, p1, p2, p3⟩ := name_tail B (f := f) (u := u) h62 htl r ds (nm := nm ++ c) (o := some d) I1 (by omega) (strOk_app hs e2) (by rw [len_app, e3]; omega)
    refine ⟨nm', cs', a', m', t', o', ?_, p1, ?_, ?_⟩
    · rw [← p]
      have hle : nm.length + c.length ≤ lim := by simp only [lim, e3]; omega
      have e1' := e1
      simp only [ixD] at e1'
      simp only [forL]
      simp only [dAsg, dAsg2, dRet, dDrop, dIfS, dNext, dLit, dVar, aNil, aCons, dTup, dBin, tCmpD, tAndD, tOrD, tNotD, tVal, dAnd, dOr, dNot, truD, dCB, dM, dCall, dCall0, dKeep, dNew, dFrz, dLim, tgSub, tgName, dSlice, oNone, oSome, dSrc, dFor, dRg, bE_val, bS_val, isTy, lstOf, lstOfR, lstAt, ixD, ixSeq, setD, popM, appendM, intF, dIsA, isA, List.getElem?_cons_zero, List.getElem?_cons_succ, List.set_cons_zero, List.set_cons_succ, at4_0, at4_1, at4_2, at4_3, ix4_1, ix4_2, ix4_3, List.length_nil, Nat.zero_le, Option.map_some, Option.bind_some, Option.isSome_some, if_true, if_false, Bool.false_eq_true, ite_true, ite_false, q, addD, e1', hle, aft, Nat.reduceAdd, List.length_cons, List.length_nil]
    · rw [len_app, e3] at p2
      simp only [List.length_cons]
      omega
    · have e : T + 1 + (ds.length : Int) = T + ((d :: ds).length : Int) := by simp only [List.length_cons]; omega
      rw [← e]
      exact p3
theorem hasD_str {ys : List Str} {s : Str} (hs : PyData.strOk s = true) (hy : ys.all PyData.strOk = true) : ∃ b, hasD (ys.map .str) (.str s) = some b := by
  have e : ∀ ys : List Str, ys.all PyData.strOk = true → D.goods (D.good deepest) (ys.map .str) = true := by
    intro ys
    induction ys with
    | nil => exact fun _ => rfl
    | cons y ys ih =>
      intro h
      simp only [List.all_cons, Bool.and_eq_true] at h
      simp only [List.map_cons, D.goods, ih h.2, Bool.and_true]
      exact h.1
  have e2 : (D.str s).good deepest = true := hs
  simp only [hasD, e ys hy, e2, Bool.and_self, if_true]
  exact ⟨_, rfl⟩
def resS : List Str := (["class", "def", "else", "fn", "give", "if", "kind", "let", "match", "upper", "way", "whole"] : List String).map Str.ofString
theorem res_fn (S : Nat → Sem1) (hp : AH) : runFn 0 (b__law_reserved S) [] hp = some (.val (.tup (resS.map .str)), hp) := by
  refine runFn_p (e1 := []) (h1 := []) rfl ?_ (by decide +kernel)
  unfold b__law_reserved
  simp only [dAsg, dAsg2, dRet, dDrop, dIfS, dNext, dLit, dVar, aNil, aCons, dTup, dBin, tCmpD, tAndD, tOrD, tNotD, tVal, dAnd, dOr, dNot, truD, dCB, dM, dCall, dCall0, dKeep, dNew, dFrz, dLim, tgSub, tgName, dSlice, oNone, oSome, dSrc, dFor, dRg, bE_val, bS_val, isTy, lstOf, lstOfR, lstAt, ixD, ixSeq, setD, popM, appendM, intF, dIsA, isA, List.getElem?_cons_zero, List.getElem?_cons_succ, List.set_cons_zero, List.set_cons_succ, at4_0, at4_1, at4_2, at4_3, ix4_1, ix4_2, ix4_3, List.length_nil, Nat.zero_le, Option.map_some, Option.bind_some, Option.isSome_some, if_true, if_false, Bool.false_eq_true, ite_true, ite_false, dTup, List.length_cons, List.length_nil]
  rw [if_pos (by decide)]
  rfl
theorem strF_0 (hp : AH) : strF hp [.int 0] = some (.str (toString (0 : Int))) := rfl
theorem ok_0 : PyData.strOk (toString (0 : Int)) = true ∧ (toString (0 : Int) : Str).length = 1 := by decide +kernel
theorem name_if {S : Nat → Sem1} (R : ∀ hp, S 3 [] hp = some (.val (.tup (resS.map .str)), hp)) {f x3 x5 : Option D} {nm : Str} {l : Nat} {hp : AH} (hu : hp[l]? = some (.lst [])) (hs : PyData.strOk nm = true) (hl : nm.length ≤ 20) : ∃ nm', PyData.strOk nm' = true ∧ nm'.length ≤ 21 ∧
    (dIfS (tOrD (tCmpD inB (dVar 4) (dVar 2)) (tOrD (tCmpD inB (dSlice (dVar 4) oNone (oSome (dLit (.int 2)))) (dTup (aCons (dLit (.str "zz")) (aCons (dLit (.str "Zz")) aNil)))) (tCmpD inB (dVar 4) (dBin addD (dCall0 (S 3)) (dTup (aCons (dLit (.str "of")) (aCons (dLit (.str "to")) (aCons (dLit (.str "var")) aNil)))))))) (dAsg (dBin ixD (dKeep false (dLc (dRg rg1 (aCons (dBin addD (dCB lenD (aCons (dVar 2) aNil)) (dLit (.int 1))) aNil)) (tgName 5) (tCmpD ninB (dBin addD (dSlice (dVar 4) oNone (oSome (dLit (.int 1)))) (dCB strF (aCons (dVar 5) aNil))) (dVar 2)) (one1 (dBin addD (dSlice (dVar 4) oNone (oSome (dLit (.int 1)))) (dCB strF (aCons (dVar 5) aNil)))) (([("k", 5)] : List (Str × Nat)).map (·.2)))) (dLit (.int 0))) (tgName 4)) dNext)
    [some (.ref 1), f, some (.ref l), x3, some (.str nm), x5] hp = some (.next, [some (.ref 1), f, some (.ref l), x3, some (.str nm'), x5], hp) := by
  have hlim : nm.length ≤ lim := by simp only [lim]; omega
  have i1 : ∀ s : Str, PyData.strOk s = true → inB hp (.str s) (.ref l) = some false := fun s h => by
    have e2 : (D.str s).good deepest = true := h
    simp only [inB, hu, hasD, e2, D.goods, Bool.and_self, if_true, List.any_nil]
  have hc := strOk_cut hs none (some 2)
  obtain ⟨b2, i2⟩ := hasD_str (ys := ["zz", "Zz"]) hc (by decide +kernel)
  simp only [List.map_cons, List.map_nil] at i2
  obtain ⟨b3, i3⟩ := hasD_str (ys := resS ++ ([("of" : Str), ("to" : Str), ("var" : Str)])) hs (by decide +kernel)
  rw [List.map_append] at i3
  simp only [List.map_cons, List.map_nil] at i3
  have hlen : (resS.map D.str).length + 3 ≤ lim := by decide
  have hlen2 : 2 ≤ lim := by decide
  have hlen3 : 3 ≤ lim := by decide
  have i2' : inB hp (.str (cutS nm none (some 2))) (.tup [.str "zz", .str "Zz"]) = some b2 := i2
  have i3' : inB hp (.str nm) (.tup (resS.map .str ++ [.str "of", .str "to", .str "var"])) = some b3 := i3
  have key : (tOrD (tCmpD inB (dVar 4) (dVar 2)) (tOrD (tCmpD inB (dSlice (dVar 4) oNone (oSome (dLit (.int 2)))) (dTup (aCons (dLit (.str "zz")) (aCons (dLit (.str "Zz")) aNil)))) (tCmpD inB (dVar 4) (dBin addD (dCall0 (S 3)) (dTup (aCons (dLit (.str "of")) (aCons (dLit (.str "to")) (aCons (dLit (.str "var")) aNil))))))))
    [some (.ref 1), f, some (.ref l), x3, some (.str nm), x5] hp = some (.val (b2 || b3), hp) := by
    cases b2
    · simp only [dAsg, dAsg2, dRet, dDrop, dIfS, dNext, dLit, dVar, aNil, aCons, dTup, dBin, tCmpD, tAndD, tOrD, tNotD, tVal, dAnd, dOr, dNot, truD, dCB, dM, dCall, dCall0, dKeep, dNew, dFrz, dLim, tgSub, tgName, dSlice, oNone, oSome, dSrc, dFor, dRg, bE_val, bS_val, isTy, lstOf, lstOfR, lstAt, ixD, ixSeq, setD, popM, appendM, intF, dIsA, isA, List.getElem?_cons_zero, List.getElem?_cons_succ, List.set_cons_zero, List.set_cons_succ, at4_0, at4_1, at4_2, at4_3, ix4_1, ix4_2, ix4_3, List.length_nil, Nat.zero_le, Option.map_some, Option.bind_some, Option.isSome_some, if_true, if_false, Bool.false_eq_true, ite_true, ite_false, i1 nm hs, sliceD, hlim, i2', i3', R, addD, List.length_cons, List.length_nil, Nat.reduceAdd, hlen, hlen2, hlen3, Bool.false_or]
    · simp only [dAsg, dAsg2, dRet, dDrop, dIfS, dNext, dLit, dVar, aNil, aCons, dTup, dBin, tCmpD, tAndD, tOrD, tNotD, tVal, dAnd, dOr, dNot, truD, dCB, dM, dCall, dCall0, dKeep, dNew, dFrz, dLim, tgSub, tgName, dSlice, oNone, oSome, dSrc, dFor, dRg, bE_val, bS_val, isTy, lstOf, lstOfR, lstAt, ixD, ixSeq, setD, popM, appendM, intF, dIsA, isA, List.getElem?_cons_zero, List.getElem?_cons_succ, List.set_cons_zero, List.set_cons_succ, at4_0, at4_1, at4_2, at4_3, ix4_1, ix4_2, ix4_3, List.length_nil, Nat.zero_le, Option.map_some, Option.bind_some, Option.isSome_some, if_true, if_false, Bool.false_eq_true, ite_true, ite_false, i1 nm hs, sliceD, hlim, i2', i3', R, addD, List.length_cons, List.length_nil, Nat.reduceAdd, hlen, hlen2, hlen3, Bool.true_or]
  by_cases hb : (b2 || b3) = true
  · have hc1 := strOk_cut hs none (some 1)
    have hl1 := len_cut nm none (some 1)
    have o1 := strOk_app hc1 ok_0.1
    have o2 : (cutS nm none (some 1)).length + (toString (0 : Int) : Str).length ≤ lim := by rw [ok_0.2]; simp only [lim]; omega
    refine ⟨_, o1, by rw [len_app, ok_0.2]; omega, ?_⟩
    have hrg : rngL 0 (Int.toNat 1) = [.int 0] := rfl
    have hln : lenD hp [.ref l] = some (.int 0) := by simp only [lenD, hu, List.length_nil]; rfl
    have hsm : small62 1 = true := by decide
    have hat : ∀ x : D, atI [x] 0 = some x := fun _ => rfl
    have h1 : 1 ≤ lim := by decide
    simp only [dIfS, key, bS_val, hb, if_true]
    simp only [dAsg, dAsg2, dRet, dDrop, dIfS, dNext, dLit, dVar, aNil, aCons, dTup, dBin, tCmpD, tAndD, tOrD, tNotD, tVal, dAnd, dOr, dNot, truD, dCB, dM, dCall, dCall0, dKeep, dNew, dFrz, dLim, tgSub, tgName, dSlice, oNone, oSome, dSrc, dFor, dRg, bE_val, bS_val, isTy, lstOf, lstOfR, lstAt, ixD, ixSeq, setD, popM, appendM, intF, dIsA, isA, List.getElem?_cons_zero, List.getElem?_cons_succ, List.set_cons_zero, List.set_cons_succ, at4_0, at4_1, at4_2, at4_3, ix4_1, ix4_2, ix4_3, List.length_nil, Nat.zero_le, Option.map_some, Option.bind_some, Option.isSome_some, if_true, if_false, Bool.false_eq_true, ite_true, ite_false, hln, addD, dLc, rg1, Int.reduceAdd, hsm, hrg, lcRun, lcL, sliceD, hlim, strF_0, o2, ninB, i1 _ o1, Bool.not_false, one1, hat, List.map_cons, List.map_nil, wipeE, List.singleton_append, List.length_cons, List.length_nil, Nat.zero_add, h1, List.append_nil]
  · refine ⟨nm, hs, by omega, ?_⟩
    simp only [Bool.not_eq_true] at hb
    simp only [dIfS, key, bS_val, hb, Bool.false_eq_true, if_false, dNext]
theorem at_choice {x : Int} (h0 : 0 ≤ x) (h1 : x < 4) : ∃ v : Int, atI [D.int 0, .int 1, .int 2, .int 9] x = some (.int v) ∧ 0 ≤ v ∧ v ≤ 9 := by
  have e : x = 0 ∨ x = 1 ∨ x = 2 ∨ x = 3 := by omega
  rcases e with rfl | rfl | rfl | rfl
  · exact ⟨0, rfl, by decide, by decide⟩
  · exact ⟨1, rfl, by decide, by decide⟩
  · exact ⟨2, rfl, by decide, by decide⟩
  · exact ⟨9, rfl, by decide, by decide⟩
theorem rngL_len (lo : Int) (n : Nat) : (rngL lo n).length = n := by simp [rngL]
theorem name_ok {S : Nat → Sem1} (B : Ball (S 1)) (R : ∀ hp, S 3 [] hp = some (.val (.tup (resS.map .str)), hp)) {T : Int} {cs : List Int} {a m t : Int} {first : Str} {l : Nat} {r : AH} (I : UI T cs a m t) (hT : T < 4000000) (h26 : first.length = 26) (hf : PyData.strOk first = true) (hr : r[l]? = some (.lst [])) :
    ∃ nm cs' a' m' t', runFn 6 (b__law_name S) [.ref 1, .str first, .ref (l + 2)] (UH cs a m t r) = some (.val (.str nm), UH cs' a' m' t' (r.set l (.lst [.str nm]))) ∧ PyData.strOk nm = true ∧ nm.length ≤ 21 ∧ UI (T + 20) cs' a' m' t' := by
  obtain ⟨tl, htl⟩ : ∃ tl : Str, tl = "abcdefghijklmnopqrstuvwxyzABCDEFGHIJKLMNOPQRSTUVWXYZ0123456789" := ⟨_, rfl⟩
  have t1 : tl.length = 62 := by rw [htl]; decide +kernel
  have t2 : PyData.strOk tl = true := by rw [htl]; decide +kernel
  obtain ⟨x1, cs1, a1, m1, t1', q1, p1, p1', I1⟩ := B 26 r I (by omega) (by decide) (by decide)
  obtain ⟨c, e1, e2, e3⟩ := ixD_letter (UH cs1 a1 m1 t1' r) hf (by rw [h26]; decide) p1 (by rw [h26]; exact p1')
  obtain ⟨x2, cs2, a2, m2, t2', q2, p2, p2', I2⟩ := B 4 r I1 (by omega) (by decide) (by decide)
  obtain ⟨v, ev1, v0, v9⟩ := at_choice p2 p2'
  have hlen : (rngL 0 v.toNat).length = v.toNat := rngL_len _ _
  obtain ⟨nm3, cs3, a3, m3, t3', o3, q3, s3, l3, I3⟩ := name_tail B (f := some (.str first)) (u := some (.ref (l + 2))) t1 t2 r (rngL 0 v.toNat) (nm := c) (o := none) I2 (by rw [hlen]; omega) e2 (by rw [hlen, e3]; omega)
  rw [hlen, e3] at l3
  rw [hlen] at I3
  have hu : (UH cs3 a3 m3 t3' r)[l + 2]? = some (.lst []) := by
    unfold UH
    simp only [List.getElem?_cons_succ]
    exact hr
  obtain ⟨nm, s4, l4, q4⟩ := name_if R (f := some (.str first)) (x3 := some (.str tl)) (x5 := o3) hu s3 (by omega)
  refine ⟨nm, cs3, a3, m3, t3', ?_, s4, l4, I3.more (by omega)⟩
  refine runFn_g (e1 := [some (.ref 1), some (.str first), some (.ref (l + 2)), some (.str tl), some (.str nm), o3]) (f := .ret (.str nm)) (by simp only [D.pures, D.pure, Bool.false_and]) ?_ rfl (by simp [UH])
  have st : startE 6 [.ref 1, .str first, .ref (l + 2)] = [some (.ref 1), some (.str first), some (.ref (l + 2)), none, none, none] := rfl
  rw [st]
  unfold b__law_name
  rw [dSeq_nx (e1 := [some (.ref 1), some (.str first), some (.ref (l + 2)), some (.str tl), none, none]) (h1 := UH cs a m t r) (by rw [htl]; rfl)]
  rw [dSeq_nx (e1 := [some (.ref 1), some (.str first), some (.ref (l + 2)), some (.str tl), some (.str c), none]) (h1 := UH cs1 a1 m1 t1' r) ?ha]
  case ha =>
    have hlen1 : lenD (UH cs a m t r) [.str first] = some (.int 26) := by
      simp only [lenD, h26]
      rw [if_pos (by decide)]
      rfl
    have e1' := e1
    simp only [ixD] at e1'
    simp only [dAsg, dAsg2, dRet, dDrop, dIfS, dNext, dLit, dVar, aNil, aCons, dTup, dBin, tCmpD, tAndD, tOrD, tNotD, tVal, dAnd, dOr, dNot, truD, dCB, dM, dCall, dCall0, dKeep, dNew, dFrz, dLim, tgSub, tgName, dSlice, oNone, oSome, dSrc, dFor, dRg, bE_val, bS_val, isTy, lstOf, lstOfR, lstAt, ixD, ixSeq, setD, popM, appendM, intF, dIsA, isA, List.getElem?_cons_zero, List.getElem?_cons_succ, List.set_cons_zero, List.set_cons_succ, at4_0, at4_1, at4_2, at4_3, ix4_1, ix4_2, ix4_3, List.length_nil, Nat.zero_le, Option.map_some, Option.bind_some, Option.isSome_some, if_true, if_false, Bool.false_eq_true, ite_true, ite_false, hlen1, q1, e1', List.length_cons, List.length_nil, Nat.reduceAdd]
  rw [dSeq_nx (e1 := [some (.ref 1), some (.str first), some (.ref (l + 2)), some (.str tl), some (.str nm3), o3]) (h1 := UH cs3 a3 m3 t3' r) ?hb]
  case hb =>
    have hs : small62 v = true := by
      simp only [small62, Bool.and_eq_true, decide_eq_true_eq]
      omega
    have h4 : 4 ≤ lim := by decide
    simp only [dAsg, dAsg2, dRet, dDrop, dIfS, dNext, dLit, dVar, aNil, aCons, dTup, dBin, tCmpD, tAndD, tOrD, tNotD, tVal, dAnd, dOr, dNot, truD, dCB, dM, dCall, dCall0, dKeep, dNew, dFrz, dLim, tgSub, tgName, dSlice, oNone, oSome, dSrc, dFor, dRg, bE_val, bS_val, isTy, lstOf, lstOfR, lstAt, ixD, ixSeq, setD, popM, appendM, intF, dIsA, isA, List.getElem?_cons_zero, List.getElem?_cons_succ, List.set_cons_zero, List.set_cons_succ, at4_0, at4_1, at4_2, at4_3, ix4_1, ix4_2, ix4_3, List.length_nil, Nat.zero_le, Option.map_some, Option.bind_some, Option.isSome_some, if_true, if_false, Bool.false_eq_true, ite_true, ite_false, List.length_cons, List.length_nil, Nat.reduceAdd, h4, q2, ev1, rg1, hs, q3]
  rw [dSeq_nx (e1 := [some (.ref 1), some (.str first), some (.ref (l + 2)), some (.str tl), some (.str nm), o3]) (h1 := UH cs3 a3 m3 t3' r) q4]
  have hlim : 0 < lim := by decide
  have hse : (UH cs3 a3 m3 t3' r).set (l + 2) (.lst [.str nm]) = UH cs3 a3 m3 t3' (r.set l (.lst [.str nm])) := rfl
  rw [dSeq_nx (e1 := [some (.ref 1), some (.str first), some (.ref (l + 2)), some (.str tl), some (.str nm), o3]) (h1 := UH cs3 a3 m3 t3' (r.set l (.lst [.str nm]))) ?hc]
  case hc => simp only [dAsg, dAsg2, dRet, dDrop, dIfS, dNext, dLit, dVar, aNil, aCons, dTup, dBin, tCmpD, tAndD, tOrD, tNotD, tVal, dAnd, dOr, dNot, truD, dCB, dM, dCall, dCall0, dKeep, dNew, dFrz, dLim, tgSub, tgName, dSlice, oNone, oSome, dSrc, dFor, dRg, bE_val, bS_val, isTy, lstOf, lstOfR, lstAt, ixD, ixSeq, setD, popM, appendM, intF, dIsA, isA, List.getElem?_cons_zero, List.getElem?_cons_succ, List.set_cons_zero, List.set_cons_succ, at4_0, at4_1, at4_2, at4_3, ix4_1, ix4_2, ix4_3, List.length_nil, Nat.zero_le, Option.map_some, Option.bind_some, Option.isSome_some, if_true, if_false, Bool.false_eq_true, ite_true, ite_false, hu, hlim, List.nil_append, hse]
  simp only [dAsg, dAsg2, dRet, dDrop, dIfS, dNext, dLit, dVar, aNil, aCons, dTup, dBin, tCmpD, tAndD, tOrD, tNotD, tVal, dAnd, dOr, dNot, truD, dCB, dM, dCall, dCall0, dKeep, dNew, dFrz, dLim, tgSub, tgName, dSlice, oNone, oSome, dSrc, dFor, dRg, bE_val, bS_val, isTy, lstOf, lstOfR, lstAt, ixD, ixSeq, setD, popM, appendM, intF, dIsA, isA, List.getElem?_cons_zero, List.getElem?_cons_succ, List.set_cons_zero, List.set_cons_succ, at4_0, at4_1, at4_2, at4_3, ix4_1, ix4_2, ix4_3, List.length_nil, Nat.zero_le, Option.map_some, Option.bind_some, Option.isSome_some, if_true, if_false, Bool.false_eq_true, ite_true, ite_false]
theorem low_ok {S : Nat → Sem1} {first : Str} {l : Nat} {nm : Str} {h h' : AH} (h4 : S 4 [.ref 1, .str first, .ref l] h = some (.val (.str nm), h')) (hl : h'.length = h.length) : runFn 2 (dRet (dCall 3 (S 4) (aCons (dVar 0) (aCons (dLit (.str first)) (aCons (dVar 1) aNil))))) [.ref 1, .ref l] h = some (.val (.str nm), h') := by
  refine runFn_g (e1 := [some (.ref 1), some (.ref l)]) (f := .ret (.str nm)) (by simp only [D.pures, D.pure, Bool.false_and]) ?_ rfl hl
  have st : startE 2 [.ref 1, .ref l] = [some (.ref 1), some (.ref l)] := rfl
  rw [st]
  simp only [dAsg, dAsg2, dRet, dDrop, dIfS, dNext, dLit, dVar, aNil, aCons, dTup, dBin, tCmpD, tAndD, tOrD, tNotD, tVal, dAnd, dOr, dNot, truD, dCB, dM, dCall, dCall0, dKeep, dNew, dFrz, dLim, tgSub, tgName, dSlice, oNone, oSome, dSrc, dFor, dRg, bE_val, bS_val, isTy, lstOf, lstOfR, lstAt, ixD, ixSeq, setD, popM, appendM, intF, dIsA, isA, List.getElem?_cons_zero, List.getElem?_cons_succ, List.set_cons_zero, List.set_cons_succ, at4_0, at4_1, at4_2, at4_3, ix4_1, ix4_2, ix4_3, List.length_nil, Nat.zero_le, Option.map_some, Option.bind_some, Option.isSome_some, if_true, if_false, Bool.false_eq_true, ite_true, ite_false, List.length_cons, List.length_nil, Nat.reduceAdd, h4]
end K00
end

section
set_option maxHeartbeats 4000000
/-! LawD: equal data, classes, the law's answer. -/
namespace MP
open PySem PySem.Spec L2
theorem eqB_good {hp : AH} {x y : D} (h : sv x = none) (hx : x.see hp = x) (hy : y.see hp = y) (gx : x.good deepest = true) (gy : y.good deepest = true) : eqB hp x y = some (D.eqv x y) := by
  simp only [eqB, h, eqDeep, hx, hy, gx, gy, Bool.and_self, if_true]
theorem goods_bl : ∀ (bs : List Bool) (n : Nat), D.goods (D.good n) (bs.map .bl) = true
  | [], _ => rfl
  | c :: cs, n => by
    simp only [List.map_cons, D.goods, goods_bl cs n, Bool.and_true]
    cases n <;> rfl
theorem eqvs_bl : ∀ (bs : List Bool), D.eqvs (bs.map .bl) (bs.map .bl) = true
  | [] => rfl
  | c :: cs => by simp only [List.map_cons, D.eqvs, D.eqv, eqvs_bl cs, beq_self_eq_true, Bool.and_self]
theorem ne_bls (hp : AH) (bs : List Bool) : neB hp (.vls (bs.map .bl)) (.vls (bs.map .bl)) = some false := by
  have g : (D.vls (bs.map .bl)).good deepest = true := goods_bl bs _
  simp only [neB, eqB_good rfl rfl rfl g g, D.eqv, eqvs_bl, Option.map_some, Bool.not_true]
theorem eq_nil (hp : AH) : eqB hp (.vls []) (.vls []) = some true := by
  simp only [eqB_good rfl rfl rfl (show (D.vls []).good deepest = true from rfl) (show (D.vls []).good deepest = true from rfl)]
  rfl
/-- plain data, at most n deep -/
def D.pl : Nat → D → Bool
  | _, .non => true | _, .bl _ => true | _, .int _ => true | _, .str _ => true
  | n + 1, .tup xs => xs.all (D.pl n)
  | _, _ => false
theorem pl_pure : ∀ (n : Nat) (d : D), d.pl n = true → d.pure = true
  | n, .non, _ => rfl
  | n, .bl _, _ => rfl
  | n, .int _, _ => rfl
  | n, .str _, _ => rfl
  | n, .vls _, h => by cases n <;> cases h
  | n, .ref _, h => by cases n <;> cases h
  | n, .exn _, h => by cases n <;> cases h
  | n, .exf _ _ _, h => by cases n <;> cases h
  | n, .rls _, h => by cases n <;> cases h
  | 0, .tup _, h => by cases h
  | n + 1, .tup xs, h => by
    have h' : xs.all (D.pl n) = true := h
    have key : ∀ xs : List D, xs.all (D.pl n) = true → D.pures xs = true := by
      intro xs
      induction xs with
      | nil => exact fun _ => rfl
      | cons x xs ih =>
        intro h
        simp only [List.all_cons, Bool.and_eq_true] at h
        simp only [D.pures, pl_pure n x h.1, ih h.2, Bool.and_self]
    exact key xs h'
theorem rngL_mem {n : Nat} {d : D} (h : d ∈ rngL 0 n) : ∃ i : Int, d = .int i ∧ 0 ≤ i ∧ i < n := by
  unfold rngL at h
  obtain ⟨i, hi, rfl⟩ := List.mem_map.mp h
  have := List.mem_range.mp hi
  exact ⟨0 + (i : Int), rfl, by omega, by omega⟩
theorem lenD_tup (hp : AH) (xs : List D) : lenD hp [.tup xs] = some (.int (xs.length : Int)) := rfl
theorem lenD_vls (hp : AH) (xs : List D) : lenD hp [.vls xs] = some (.int (xs.length : Int)) := rfl
theorem rg1_at {j : Int} (h : small62 j = true) : rg1 [.int j] = some (rngL 0 j.toNat) := if_pos h
end MP
namespace K00
open PySem PySem.Spec L2 MP
theorem same_items {g : Sem1} {xs : List D} (hg : ∀ x ∈ xs, ∀ hp, g [x, x] hp = some (.val (.bl true), hp)) (hp : AH) : ∀ ds : List D, (∀ d ∈ ds, ∃ i : Int, d = .int i ∧ 0 ≤ i ∧ i < xs.length) →
    lcL (tgName 2) (tNotD (tVal (dCall 2 g (aCons (dBin ixD (dVar 0) (dVar 2)) (aCons (dBin ixD (dVar 1) (dVar 2)) aNil))))) (one1 (dVar 2)) [some (.tup xs), some (.tup xs), none] ds hp = some ([], hp)
  | [], _ => rfl
  | d :: ds, h => by
    obtain ⟨i, rfl, h0, h1⟩ := h d (List.mem_cons_self ..)
    obtain ⟨x, hx, _, e⟩ := atI_at (xs := xs) h0 h1
    have ih := same_items hg hp ds fun d hd => h d (List.mem_cons_of_mem _ hd)
    simp only [lcL]
    simp only [dAsg, dAsg2, dRet, dDrop, dIfS, dNext, dLit, dVar, aNil, aCons, dTup, dBin, tCmpD, tAndD, tOrD, tNotD, tVal, dAnd, dOr, dNot, truD, dCB, dM, dCall, dCall0, dKeep, dNew, dFrz, dLim, tgSub, tgName, dSlice, oNone, oSome, dSrc, dFor, dRg, bE_val, bS_val, isTy, lstOf, lstOfR, lstAt, ixD, ixSeq, setD, popM, appendM, intF, dIsA, isA, List.getElem?_cons_zero, List.getElem?_cons_succ, List.set_cons_zero, List.set_cons_succ, at4_0, at4_1, at4_2, at4_3, ix4_1, ix4_2, ix4_3, List.length_nil, Nat.zero_le, Option.map_some, Option.bind_some, Option.isSome_some, if_true, if_false, Bool.false_eq_true, ite_true, ite_false, e, List.length_cons, List.length_nil, Nat.reduceAdd, hg x hx hp, Bool.not_true, ih]
theorem eqB_bl (hp : AH) (b : Bool) : eqB hp (.bl b) (.bl b) = some true := by
  simp only [eqB, sv, scal, if_true, decide_true]
theorem eqB_str (hp : AH) (b : Str) : eqB hp (.str b) (.str b) = some true := by
  simp only [eqB, sv, scal, if_true, decide_true]
theorem same_run {S : Nat → Sem1} {hp : AH} {d : D} (h : ∀ xs, d = .tup xs → xs.length ≤ 1000 ∧ ∀ x ∈ xs, ∀ hp, S 2 [x, x] hp = some (.val (.bl true), hp)) (hd : ∃ n, d.pl n = true) : b__law_same S [some d, some d, none] hp = some (.ret (.bl true), [some d, some d, none], hp) := by
  obtain ⟨n, hd⟩ := hd
  unfold b__law_same
  cases d with
  | vls _ => cases n <;> cases hd
  | ref _ => cases n <;> cases hd
  | exn _ => cases n <;> cases hd
  | exf _ _ _ => cases n <;> cases hd
  | rls _ => cases n <;> cases hd
  | tup xs =>
    obtain ⟨hl, h⟩ := h xs rfl
    obtain ⟨j, hj⟩ : ∃ j : Int, j = xs.length := ⟨_, rfl⟩
    have hn : ∀ hp, lenD hp [.tup xs] = some (.int j) := fun hp => by rw [hj]; rfl
    have hs : small62 j = true := by
      simp only [small62, Bool.and_eq_true, decide_eq_true_eq]
      omega
    have q := same_items h hp (rngL 0 j.toNat) fun d hd => by
      obtain ⟨i, e, h0, h1⟩ := rngL_mem hd
      exact ⟨i, e, h0, by omega⟩
    have e1 : (tOrD (tNotD (tVal (dIsA .tuple (dVar 0)))) (tCmpD neB (dCB lenD (aCons (dVar 0) aNil)) (dCB lenD (aCons (dVar 1) aNil)))) [some (.tup xs), some (.tup xs), none] hp = some (.val false, hp) := by
      simp only [dAsg, dAsg2, dRet, dDrop, dIfS, dNext, dLit, dVar, aNil, aCons, dTup, dBin, tCmpD, tAndD, tOrD, tNotD, tVal, dAnd, dOr, dNot, truD, dCB, dM, dCall, dCall0, dKeep, dNew, dFrz, dLim, tgSub, tgName, dSlice, oNone, oSome, dSrc, dFor, dRg, bE_val, bS_val, isTy, lstOf, lstOfR, lstAt, ixD, ixSeq, setD, popM, appendM, intF, dIsA, isA, List.getElem?_cons_zero, List.getElem?_cons_succ, List.set_cons_zero, List.set_cons_succ, at4_0, at4_1, at4_2, at4_3, ix4_1, ix4_2, ix4_3, List.length_nil, Nat.zero_le, Option.map_some, Option.bind_some, Option.isSome_some, if_true, if_false, Bool.false_eq_true, ite_true, ite_false, beq_self_eq_true, Bool.not_true, hn, neB_int, eq_self, decide_true]
    have e2 : dIfS (tOrD (tNotD (tVal (dIsA .tuple (dVar 0)))) (tCmpD neB (dCB lenD (aCons (dVar 0) aNil)) (dCB lenD (aCons (dVar 1) aNil)))) (dRet (dLit (.bl false))) dNext [some (.tup xs), some (.tup xs), none] hp = some (.next, [some (.tup xs), some (.tup xs), none], hp) := by
      simp only [dIfS, e1, bS_val, Bool.false_eq_true, if_false, dNext]
    refine dSeq_rt ?_
    have e3 : (tVal (dIsA .tuple (dVar 1))) [some (.tup xs), some (.tup xs), none] hp = some (.val true, hp) := by
      simp only [dAsg, dAsg2, dRet, dDrop, dIfS, dNext, dLit, dVar, aNil, aCons, dTup, dBin, tCmpD, tAndD, tOrD, tNotD, tVal, dAnd, dOr, dNot, truD, dCB, dM, dCall, dCall0, dKeep, dNew, dFrz, dLim, tgSub, tgName, dSlice, oNone, oSome, dSrc, dFor, dRg, bE_val, bS_val, isTy, lstOf, lstOfR, lstAt, ixD, ixSeq, setD, popM, appendM, intF, dIsA, isA, List.getElem?_cons_zero, List.getElem?_cons_succ, List.set_cons_zero, List.set_cons_succ, at4_0, at4_1, at4_2, at4_3, ix4_1, ix4_2, ix4_3, List.length_nil, Nat.zero_le, Option.map_some, Option.bind_some, Option.isSome_some, if_true, if_false, Bool.false_eq_true, ite_true, ite_false, beq_self_eq_true]
    rw [dIfS, e3, bS_val, if_pos rfl, dSeq_nx e2]
    have e5 : (dRg rg1 (aCons (dCB lenD (aCons (dVar 1) aNil)) aNil)) [some (.tup xs), some (.tup xs), none] hp = some (.val (.fix (rngL 0 j.toNat)), hp) := by
      simp only [dAsg, dAsg2, dRet, dDrop, dIfS, dNext, dLit, dVar, aNil, aCons, dTup, dBin, tCmpD, tAndD, tOrD, tNotD, tVal, dAnd, dOr, dNot, truD, dCB, dM, dCall, dCall0, dKeep, dNew, dFrz, dLim, tgSub, tgName, dSlice, oNone, oSome, dSrc, dFor, dRg, bE_val, bS_val, isTy, lstOf, lstOfR, lstAt, ixD, ixSeq, setD, popM, appendM, intF, dIsA, isA, List.getElem?_cons_zero, List.getElem?_cons_succ, List.set_cons_zero, List.set_cons_succ, at4_0, at4_1, at4_2, at4_3, ix4_1, ix4_2, ix4_3, List.length_nil, Nat.zero_le, Option.map_some, Option.bind_some, Option.isSome_some, if_true, if_false, Bool.false_eq_true, ite_true, ite_false, hn, rg1_at hs]
    have hlim : 0 ≤ lim := Nat.zero_le _
    simp only [dRet, dBin, dKeep, Bool.false_eq_true, if_false, dFrz, dLim, aNil, dLc, e5, bE_val, bS_val, lcRun, List.map_cons, List.map_nil, wipeE, List.set_cons_zero, List.set_cons_succ, q, List.length_nil, hlim, if_true, eqD, bl2, eq_nil, Option.map_some]
  | non => simp only [dAsg, dAsg2, dRet, dDrop, dIfS, dNext, dLit, dVar, aNil, aCons, dTup, dBin, tCmpD, tAndD, tOrD, tNotD, tVal, dAnd, dOr, dNot, truD, dCB, dM, dCall, dCall0, dKeep, dNew, dFrz, dLim, tgSub, tgName, dSlice, oNone, oSome, dSrc, dFor, dRg, bE_val, bS_val, isTy, lstOf, lstOfR, lstAt, ixD, ixSeq, setD, popM, appendM, intF, dIsA, isA, List.getElem?_cons_zero, List.getElem?_cons_succ, List.set_cons_zero, List.set_cons_succ, at4_0, at4_1, at4_2, at4_3, ix4_1, ix4_2, ix4_3, List.length_nil, Nat.zero_le, Option.map_some, Option.bind_some, Option.isSome_some, if_true, if_false, Bool.false_eq_true, ite_true, ite_false, dSeq, isNB, isNonD, isND, bl2, show (Cl.tuple == Cl.bool) = false from rfl, Bool.or_true, Bool.not_true]
  | bl b => simp only [dAsg, dAsg2, dRet, dDrop, dIfS, dNext, dLit, dVar, aNil, aCons, dTup, dBin, tCmpD, tAndD, tOrD, tNotD, tVal, dAnd, dOr, dNot, truD, dCB, dM, dCall, dCall0, dKeep, dNew, dFrz, dLim, tgSub, tgName, dSlice, oNone, oSome, dSrc, dFor, dRg, bE_val, bS_val, isTy, lstOf, lstOfR, lstAt, ixD, ixSeq, setD, popM, appendM, intF, dIsA, isA, List.getElem?_cons_zero, List.getElem?_cons_succ, List.set_cons_zero, List.set_cons_succ, at4_0, at4_1, at4_2, at4_3, ix4_1, ix4_2, ix4_3, List.length_nil, Nat.zero_le, Option.map_some, Option.bind_some, Option.isSome_some, if_true, if_false, Bool.false_eq_true, ite_true, ite_false, dSeq, isNB, isNonD, isND, bl2, eqD, eqB_bl, show (Cl.tuple == Cl.bool || Cl.tuple == Cl.int) = false from rfl, show (Cl.bool == Cl.bool || Cl.bool == Cl.int) = true from rfl]
  | str s => simp only [dAsg, dAsg2, dRet, dDrop, dIfS, dNext, dLit, dVar, aNil, aCons, dTup, dBin, tCmpD, tAndD, tOrD, tNotD, tVal, dAnd, dOr, dNot, truD, dCB, dM, dCall, dCall0, dKeep, dNew, dFrz, dLim, tgSub, tgName, dSlice, oNone, oSome, dSrc, dFor, dRg, bE_val, bS_val, isTy, lstOf, lstOfR, lstAt, ixD, ixSeq, setD, popM, appendM, intF, dIsA, isA, List.getElem?_cons_zero, List.getElem?_cons_succ, List.set_cons_zero, List.set_cons_succ, at4_0, at4_1, at4_2, at4_3, ix4_1, ix4_2, ix4_3, List.length_nil, Nat.zero_le, Option.map_some, Option.bind_some, Option.isSome_some, if_true, if_false, Bool.false_eq_true, ite_true, ite_false, dSeq, isNB, isNonD, isND, bl2, eqD, eqB_str, show (Cl.tuple == Cl.str) = false from rfl, show (Cl.bool == Cl.str) = false from rfl, beq_self_eq_true]
  | int i => simp only [dAsg, dAsg2, dRet, dDrop, dIfS, dNext, dLit, dVar, aNil, aCons, dTup, dBin, tCmpD, tAndD, tOrD, tNotD, tVal, dAnd, dOr, dNot, truD, dCB, dM, dCall, dCall0, dKeep, dNew, dFrz, dLim, tgSub, tgName, dSlice, oNone, oSome, dSrc, dFor, dRg, bE_val, bS_val, isTy, lstOf, lstOfR, lstAt, ixD, ixSeq, setD, popM, appendM, intF, dIsA, isA, List.getElem?_cons_zero, List.getElem?_cons_succ, List.set_cons_zero, List.set_cons_succ, at4_0, at4_1, at4_2, at4_3, ix4_1, ix4_2, ix4_3, List.length_nil, Nat.zero_le, Option.map_some, Option.bind_some, Option.isSome_some, if_true, if_false, Bool.false_eq_true, ite_true, ite_false, dSeq, isNB, isNonD, isND, bl2, eqD, eqB_int, decide_true, show (Cl.tuple == Cl.int) = false from rfl, show (Cl.bool == Cl.int) = false from rfl, show (Cl.str == Cl.int) = false from rfl, beq_self_eq_true, Bool.not_false]
theorem same_sem : ∀ (n : Nat) (d : D), d.pl n = true → (∀ xs, d = .tup xs → xs.length ≤ 1000 ∧ ∀ x ∈ xs, ∀ ys, x = .tup ys → ys.length ≤ 1000 ∧ ∀ y ∈ ys, ∀ zs, y = .tup zs → zs.length ≤ 1000 ∧ ∀ z ∈ zs, ∀ us, z ≠ .tup us) → ∀ (N : Nat) (hp : AH), sem (N + 4) 2 [d, d] hp = some (.val (.bl true), hp) := by
  have step : ∀ (M : Nat) (d : D) (hp : AH), (∃ n, d.pl n = true) → (∀ xs, d = .tup xs → xs.length ≤ 1000 ∧ ∀ x ∈ xs, ∀ hp, sem M 2 [x, x] hp = some (.val (.bl true), hp)) → sem (M + 1) 2 [d, d] hp = some (.val (.bl true), hp) := by
    intro M d hp hd h
    have hpu : D.pures [d, d] = true := by
      obtain ⟨n, hd⟩ := hd
      simp only [D.pures, pl_pure n d hd, Bool.and_self]
    exact runFn_p hpu (same_run (S := sem M) h hd) rfl
  have down : ∀ n xs, (D.tup xs).pl n = true → ∀ x ∈ xs, ∃ n, x.pl n = true := by
    intro n xs h x hx
    cases n with
    | zero => cases h
    | succ n => exact ⟨n, List.all_eq_true.mp h x hx⟩
  intro n d hd h N hp
  refine step _ d hp ⟨n, hd⟩ fun xs e => ⟨(h xs e).1, fun x hx hp => ?_⟩
  have hx1 := down n xs (e ▸ hd) x hx
  obtain ⟨n1, hx1⟩ := hx1
  have h := (h xs e).2 x hx
  refine step _ x hp ⟨n1, hx1⟩ fun ys e => ⟨(h ys e).1, fun y hy hp => ?_⟩
  obtain ⟨n2, hy1⟩ := down n1 ys (e ▸ hx1) y hy
  have h := (h ys e).2 y hy
  refine step _ y hp ⟨n2, hy1⟩ fun zs e => ⟨(h zs e).1, fun z hz hp => ?_⟩
  obtain ⟨n3, hz1⟩ := down n2 zs (e ▸ hy1) z hz
  have h := (h zs e).2 z hz
  exact step _ z hp ⟨n3, hz1⟩ fun us e => (h us e).elim
end K00
end

section
set_option maxHeartbeats 4000000
/-! LawE: classes and made errors. -/
namespace K00
open PySem PySem.Spec L2 MP
def nmL : List Str := (["BadText", "NotChecked", "NotGood", "NotTyped", "NotJoined", "Untyped", "BadProgram", "BadName", "BadIndex", "BadBook", "BadOther", "Unlike", "BadWays", "BadClasses", "BadType", "BadTypes", "BadGoal", "BadMany", "BadGoals", "BadGivens", "BadRoad", "BadRoads", "BadTables", "BadShape", "BadGroup", "BadPlace", "BadMarks", "BadArgs", "BadWords", "HasClasses", "BadLimit", "TooGreat", "Endless", "NotEnding"] : List String).map Str.ofString
def made (w p x i : D) : List D := [.exf "BadText" "place" p, .exf "NotChecked" "what" x, .exf "NotGood" "what" x, .exf "NotTyped" "what" x, .exf "NotJoined" "what" x, .exf "Untyped" "group" i] ++ (nmL.drop 6).map .exn
theorem addD_vls {hp : AH} {xs ys : List D} (h : xs.length + ys.length ≤ 1000) : addD hp (.vls xs) (.vls ys) = some (.vls (xs ++ ys)) := by
  have : xs.length + ys.length ≤ lim := Nat.le_trans h (by decide)
  simp only [addD, lstOf, this, if_true]
theorem lim_le {n : Nat} (h : n ≤ 1000) : n ≤ lim := Nat.le_trans h (by decide)
/-- a run of found = found + [...] -/
theorem grow {i : Nat} {e : DE (List D)} {env : En} {hp : AH} {ys xs : List D} (hv : env[i]? = some (some (.vls xs))) (he : e env hp = some (.val ys, hp)) (hl : xs.length + ys.length ≤ 1000) (b : DS) : dSeq (dAsg (dBin addD (dVar i) (dKeep false (dLim e))) (tgName i)) b env hp = b (env.set i (some (.vls (xs ++ ys)))) hp := by
  refine dSeq_nx ?_
  have h1 : ys.length ≤ lim := lim_le (by omega)
  simp only [dAsg, dBin, dVar, hv, bE_val, bS_val, dKeep, Bool.false_eq_true, if_false, dFrz, dLim, he, h1, if_true, addD_vls hl, tgName, Option.map_some]
theorem grow0 {i : Nat} {e : DE (List D)} {env : En} {hp : AH} {ys : List D} (he : e env hp = some (.val ys, hp)) (hl : ys.length ≤ 1000) (b : DS) : dSeq (dAsg (dKeep false (dLim e)) (tgName i)) b env hp = b (env.set i (some (.vls ys))) hp := by
  refine dSeq_nx ?_
  have h1 : ys.length ≤ lim := lim_le hl
  simp only [dAsg, bE_val, bS_val, dKeep, Bool.false_eq_true, if_false, dFrz, dLim, he, h1, if_true, tgName, Option.map_some]
theorem isX_at {g : Str → Bool} {a : DE D} {env : En} {hp : AH} {e : D} {c : Str} (ha : a env hp = some (.val e, hp)) (h : clsOf e = some c) (hc : c ∈ clsL) : dIsX clsL g a env hp = some (.val (.bl (g c)), hp) := by
  simp only [dIsX, ha, bE_val, h, hc, if_true]
theorem cons_at {a : DE D} {as : DE (List D)} {env : En} {hp : AH} {x : D} {xs : List D} (ha : a env hp = some (.val x, hp)) (has : as env hp = some (.val xs, hp)) : aCons a as env hp = some (.val (x :: xs), hp) := by simp only [aCons, ha, bE_val, has]
theorem nil_at {env : En} {hp : AH} : aNil env hp = some (.val [], hp) := rfl
theorem classes_run (S : Nat → Sem1) {e : D} {c : Str} (h : clsOf e = some c) (hc : c ∈ clsL) (hp : AH) : ∃ env, b__law_classes S [some e, none] hp = some (.ret (.vls (nmL.map fun y => .bl (c == y))), env, hp) := by
  have q : ∀ (o : Option D) (g : Str → Bool), dIsX clsL g (dVar 0) [some e, o] hp = some (.val (.bl (g c)), hp) := fun o g => isX_at rfl h hc
  refine ⟨[some e, some (.vls (nmL.map fun y => .bl (c == y)))], ?_⟩
  unfold b__law_classes
  rw [grow0 (cons_at (q _ _) (cons_at (q _ _) (cons_at (q _ _) nil_at))) (by simp)]
  rw [List.set_cons_succ, List.set_cons_zero]
  rw [grow (i := 1) rfl (cons_at (q _ _) (cons_at (q _ _) (cons_at (q _ _) nil_at))) (by simp), List.set_cons_succ, List.set_cons_zero]
  rw [grow (i := 1) rfl (cons_at (q _ _) (cons_at (q _ _) (cons_at (q _ _) nil_at))) (by simp), List.set_cons_succ, List.set_cons_zero]
  rw [grow (i := 1) rfl (cons_at (q _ _) (cons_at (q _ _) (cons_at (q _ _) (cons_at (q _ _) nil_at)))) (by simp), List.set_cons_succ, List.set_cons_zero]
  rw [grow (i := 1) rfl (cons_at (q _ _) (cons_at (q _ _) (cons_at (q _ _) nil_at))) (by simp), List.set_cons_succ, List.set_cons_zero]
  rw [grow (i := 1) rfl (cons_at (q _ _) (cons_at (q _ _) (cons_at (q _ _) (cons_at (q _ _) nil_at)))) (by simp), List.set_cons_succ, List.set_cons_zero]
  rw [grow (i := 1) rfl (cons_at (q _ _) (cons_at (q _ _) (cons_at (q _ _) nil_at))) (by simp), List.set_cons_succ, List.set_cons_zero]
  rw [grow (i := 1) rfl (cons_at (q _ _) (cons_at (q _ _) (cons_at (q _ _) nil_at))) (by simp), List.set_cons_succ, List.set_cons_zero]
  rw [grow (i := 1) rfl (cons_at (q _ _) (cons_at (q _ _) (cons_at (q _ _) (cons_at (q _ _) nil_at)))) (by simp), List.set_cons_succ, List.set_cons_zero]
  rw [grow (i := 1) rfl (cons_at (q _ _) (cons_at (q _ _) (cons_at (q _ _) (cons_at (q _ _) nil_at)))) (by simp), List.set_cons_succ, List.set_cons_zero]
  rfl
theorem made_run (S : Nat → Sem1) (w p x i : D) (hp : AH) : ∃ env, b__law_made S [some w, some p, some x, some i, none] hp = some (.ret (.vls (made w p x i)), env, hp) := by
  refine ⟨[some w, some p, some x, some i, some (.vls (made w p x i))], ?_⟩
  unfold b__law_made
  rw [grow0 (i := 4) (ys := [.exf "BadText" "place" p, .exf "NotChecked" "what" x, .exf "NotGood" "what" x, .exf "NotTyped" "what" x, .exf "NotJoined" "what" x]) rfl (by simp)]
  rw [grow (i := 4) (xs := [.exf "BadText" "place" p, .exf "NotChecked" "what" x, .exf "NotGood" "what" x, .exf "NotTyped" "what" x, .exf "NotJoined" "what" x]) rfl (cons_at rfl (cons_at rfl (cons_at rfl (cons_at rfl (cons_at rfl nil_at))))) (by simp)]
  iterate 4 rw [grow (i := 4) rfl (cons_at rfl (cons_at rfl (cons_at rfl (cons_at rfl (cons_at rfl nil_at))))) (by simp)]
  rw [grow (i := 4) rfl (cons_at rfl (cons_at rfl (cons_at rfl (cons_at rfl nil_at)))) (by simp)]
  rfl
theorem classes_fn (S : Nat → Sem1) {e : D} {c : Str} (h : clsOf e = some c) (hc : c ∈ clsL) (hp0 : e.pure = true) (hp : AH) : runFn 2 (b__law_classes S) [e] hp = some (.val (.vls (nmL.map fun y => .bl (c == y))), hp) := by
  obtain ⟨env, q⟩ := classes_run S h hc []
  refine runFn_p (e1 := env) (h1 := []) (by simp only [D.pures, hp0, Bool.and_self]) q ?_
  have key : ∀ ys : List Str, D.pures (ys.map fun y => .bl (c == y)) = true := by
    intro ys
    induction ys with
    | nil => rfl
    | cons y ys ih => simp only [List.map_cons, D.pures, D.pure, ih, Bool.and_self]
  exact key nmL
theorem made_fn (S : Nat → Sem1) {w p x i : D} (hw : w.pure = true) (h1 : p.pure = true) (hx : x.pure = true) (hi : i.pure = true) (hp : AH) : runFn 5 (b__law_made S) [w, p, x, i] hp = some (.val (.vls (made w p x i)), hp) := by
  obtain ⟨env, q⟩ := made_run S w p x i []
  refine runFn_p (e1 := env) (h1 := []) (by simp only [D.pures, hw, h1, hx, hi, Bool.and_self]) q ?_
  have key : ∀ ys : List Str, D.pures (ys.map .exn) = true := by
    intro ys
    induction ys with
    | nil => rfl
    | cons y ys ih => simp only [List.map_cons, D.pures, D.pure, ih, Bool.and_self]
  show D.pures ([.exf "BadText" "place" p, .exf "NotChecked" "what" x, .exf "NotGood" "what" x, .exf "NotTyped" "what" x, .exf "NotJoined" "what" x, .exf "Untyped" "group" i] ++ (nmL.drop 6).map .exn) = true
  simp only [List.cons_append, List.nil_append, D.pures, D.pure, h1, hx, hi, key, Bool.and_self]
end K00
end

section
set_option maxHeartbeats 4000000
/-! LawF: the law's answer. -/
namespace K00
open PySem PySem.Spec L2 MP
theorem nm_tab : ∀ k : Fin 34, nmL.map (fun y => (nmL[k.val]?.getD "") == y) = (List.range 34).map fun j => decide (j = k.val) := by decide +kernel
theorem nm_cls : ∀ k : Fin 34, (nmL[k.val]?.getD "") ∈ clsL := by decide +kernel
theorem made_cls (w p x i : D) : (made w p x i).map clsOf = nmL.map some := rfl
theorem made_len (w p x i : D) : (made w p x i).length = 34 := rfl
theorem made_pure {w p x i : D} (hp : p.pure = true) (hx : x.pure = true) (hi : i.pure = true) : ∀ e ∈ made w p x i, e.pure = true := by
  intro e he
  rcases List.mem_append.mp he with h | h
  · simp only [List.mem_cons, List.not_mem_nil, or_false] at h
    rcases h with rfl | rfl | rfl | rfl | rfl | rfl <;> assumption
  · obtain ⟨y, _, rfl⟩ := List.mem_map.mp h
    rfl
theorem made_at {w p x i : D} (hp : p.pure = true) (hx : x.pure = true) (hi : i.pure = true) {k : Int} (h0 : 0 ≤ k) (h1 : k < 34) : ∃ e c, atI (made w p x i) k = some e ∧ clsOf e = some c ∧ c ∈ clsL ∧ e.pure = true ∧ nmL.map (fun y => c == y) = (List.range 34).map fun j => decide (j = k.toNat) := by
  obtain ⟨e, he, e1, e2⟩ := atI_at (xs := made w p x i) h0 (by rw [made_len]; exact h1)
  have hk : k.toNat < 34 := by omega
  have q : (nmL.map some)[k.toNat]? = some (clsOf e) := by rw [← made_cls w p x i, List.getElem?_map, e1]; rfl
  rw [List.getElem?_map] at q
  obtain ⟨c, q1, q2⟩ := Option.map_eq_some_iff.mp q
  have hc : nmL[k.toNat]?.getD "" = c := by rw [q1]; rfl
  refine ⟨e, c, e2, q2.symm, ?_, made_pure hp hx hi e he, ?_⟩
  · rw [← hc]
    exact nm_cls ⟨k.toNat, hk⟩
  · rw [← hc]
    exact nm_tab ⟨k.toNat, hk⟩
theorem at_list {a b c d e f g o9 o10 : Option D} (k : Int) (hp : AH) : ∀ is : List Nat, lcL (tgName 8) dYes (one1 (dBin eqD (dVar 8) (dVar 7))) [a, b, c, d, e, f, g, some (.int k), none, o9, o10] (is.map fun (i : Nat) => .int (0 + (i : Int))) hp = some ((is.map fun (i : Nat) => decide (0 + (i : Int) = k)).map .bl, hp)
  | [] => rfl
  | i :: is => by
    have ih := at_list (a := a) (b := b) (c := c) (d := d) (e := e) (f := f) (g := g) (o9 := o9) (o10 := o10) k hp is
    simp only [List.map_cons, lcL, tgName, dYes, one1, Option.bind_some]
    simp only [dBin, dVar, List.set_cons_zero, List.set_cons_succ, List.getElem?_cons_zero, List.getElem?_cons_succ, bE_val, eqD, bl2, eqB_int, Option.map_some, Option.bind_some, tgName] at ih ⊢
    rw [ih]
    rfl
theorem rg_34 : rg1 [.int 34] = some (rngL 0 34) := rfl
theorem tab_eq {c : Str} {k : Int} (h0 : 0 ≤ k) (h : nmL.map (fun y => c == y) = (List.range 34).map fun j => decide (j = k.toNat)) : (nmL.map fun y => D.bl (c == y)) = ((List.range 34).map fun (i : Nat) => decide (0 + (i : Int) = k)).map .bl := by
  have e : (nmL.map fun y => D.bl (c == y)) = (nmL.map fun y => c == y).map .bl := by rw [List.map_map]; rfl
  rw [e, h]
  congr 1
  refine List.map_congr_left fun j _ => ?_
  have : (j = k.toNat) ↔ (0 + (j : Int) = k) := by omega
  exact decide_eq_decide.mpr this
noncomputable abbrev turnD (g : Sem1) (dr : DE Src) : DS := dSeq (dIfS (tOrD (tNotD (tVal (dIsX clsL (fun _ => true) (dBin ixD (dVar 6) (dVar 7))))) (tNotD (tVal (dIsX clsL (fun _ => true) (dBin ixD (dVar 6) (dVar 7)))))) (dRet (dLit (.bl false))) dNext)
    (dIfS (tCmpD neB (dCall 1 g (aCons (dBin ixD (dVar 6) (dVar 7)) aNil)) (dKeep false (dLc dr (tgName 8) dYes (one1 (dBin eqD (dVar 8) (dVar 7))) (([("at", 8)] : List (Str × Nat)).map (·.2))))) (dRet (dLit (.bl false))) dNext)
noncomputable abbrev turn (g : Sem1) : DS := turnD g (dRg rg1 (aCons (dCB lenD (aCons (dVar 6) aNil)) aNil))
theorem len_src {env : En} {hp : AH} {i : Nat} {x : D} {j : Int} {R : List D} (hv : env[i]? = some (some x)) (hl : lenD hp [x] = some (.int j)) (hr : rg1 [.int j] = some R) : dRg rg1 (aCons (dCB lenD (aCons (dVar i) aNil)) aNil) env hp = some (.val (.fix R), hp) := by
  have e : aCons (dCB lenD (aCons (dVar i) aNil)) aNil env hp = some (.val [.int j], hp) := by
    simp only [aCons, dCB, dVar, hv, aNil, bE_val, hl]
  simp only [dRg, e, bE_val, hr]
theorem cmp_at {f : F2B} {a b : DE D} {env : En} {hp : AH} {x y : D} {r : Bool} (ha : a env hp = some (.val x, hp)) (hb : b env hp = some (.val y, hp)) (hf : f hp x y = some r) : tCmpD f a b env hp = some (.val r, hp) := by simp only [tCmpD, ha, hb, bE_val, hf]
theorem if_no {c : DE Bool} {a b : DS} {env : En} {hp : AH} (hc : c env hp = some (.val false, hp)) : dIfS c a b env hp = b env hp := by simp only [dIfS, hc, bS_val, Bool.false_eq_true, if_false]
theorem lc_fix {dr : DE Src} {t : TgD} {c : DE Bool} {bd : En → AH → Option (List D × AH)} {vs : List Nat} {env env0 : En} {hp : AH} {R ys : List D} (h : dr env hp = some (.val (.fix R), hp)) (hw : wipeE env vs = env0) (hl : lcL t c bd env0 R hp = some (ys, hp)) (hy : ys.length ≤ lim) : dKeep false (dLc dr t c bd vs) env hp = some (.val (.vls ys), hp) := by
  simp only [dKeep, Bool.false_eq_true, if_false, dFrz, dLc, h, bE_val, hw, lcRun, hl, hy, if_true]
theorem call_1 {g : Sem1} {a : DE D} {env : En} {hp : AH} {x r : D} (ha : a env hp = some (.val x, hp)) (hg : g [x] hp = some (.val r, hp)) : dCall 1 g (aCons a aNil) env hp = some (.val r, hp) := by
  simp only [dCall, aCons, ha, aNil, bE_val, List.length_cons, List.length_nil, Nat.zero_add, if_true, hg]
theorem turn_ok {g : Sem1} (hg : ∀ {e : D} {c : Str}, clsOf e = some c → c ∈ clsL → e.pure = true → ∀ hp, g [e] hp = some (.val (.vls (nmL.map fun y => .bl (c == y))), hp)) {w p x i : D} (h1 : p.pure = true) (h2 : x.pure = true) (h3 : i.pure = true) {a b c d e f o9 o10 : Option D} {hp : AH} {k : Int} (k0 : 0 ≤ k) (k1 : k < 34) {dr : DE Src}
    (hdr : dr [a, b, c, d, e, f, some (.vls (made w p x i)), some (.int k), none, o9, o10] hp = some (.val (.fix (rngL 0 34)), hp)) :
    turnD g dr [a, b, c, d, e, f, some (.vls (made w p x i)), some (.int k), none, o9, o10] hp = some (.next, [a, b, c, d, e, f, some (.vls (made w p x i)), some (.int k), none, o9, o10], hp) := by
  obtain ⟨y, n, q1, q2, q3, q4, q5⟩ := made_at (w := w) h1 h2 h3 k0 k1
  obtain ⟨M, hM⟩ : ∃ M, M = made w p x i := ⟨_, rfl⟩
  rw [← hM] at q1 hdr ⊢
  have al := at_list (a := a) (b := b) (c := c) (d := d) (e := e) (f := f) (g := some (.vls M)) (o9 := o9) (o10 := o10) k hp (List.range 34)
  have hg1 := hg q2 q3 q4 hp
  rw [tab_eq k0 q5] at hg1
  have hll : (((List.range 34).map fun (i : Nat) => decide (0 + (i : Int) = k)).map D.bl).length ≤ lim := by simp only [List.length_map, List.length_range]; decide
  have hix : dBin ixD (dVar 6) (dVar 7) [a, b, c, d, e, f, some (.vls M), some (.int k), none, o9, o10] hp = some (.val y, hp) := by simp only [dAsg, dAsg2, dRet, dDrop, dIfS, dNext, dLit, dVar, aNil, aCons, dTup, dBin, tCmpD, tAndD, tOrD, tNotD, tVal, dAnd, dOr, dNot, truD, dCB, dM, dCall, dCall0, dKeep, dNew, dFrz, dLim, tgSub, tgName, dSlice, oNone, oSome, dSrc, dFor, dRg, bE_val, bS_val, isTy, lstOf, lstOfR, lstAt, ixD, ixSeq, setD, popM, appendM, intF, dIsA, isA, List.getElem?_cons_zero, List.getElem?_cons_succ, List.set_cons_zero, List.set_cons_succ, at4_0, at4_1, at4_2, at4_3, ix4_1, ix4_2, ix4_3, List.length_nil, Nat.zero_le, Option.map_some, Option.bind_some, Option.isSome_some, if_true, if_false, Bool.false_eq_true, ite_true, ite_false, q1]
  have isx := isX_at (g := fun _ => true) hix q2 q3
  unfold turnD
  rw [dSeq_nx (e1 := [a, b, c, d, e, f, some (.vls M), some (.int k), none, o9, o10]) (h1 := hp) (by simp only [dAsg, dAsg2, dRet, dDrop, dIfS, dNext, dLit, dVar, aNil, aCons, dTup, dBin, tCmpD, tAndD, tOrD, tNotD, tVal, dAnd, dOr, dNot, truD, dCB, dM, dCall, dCall0, dKeep, dNew, dFrz, dLim, tgSub, tgName, dSlice, oNone, oSome, dSrc, dFor, dRg, bE_val, bS_val, isTy, lstOf, lstOfR, lstAt, ixD, ixSeq, setD, popM, appendM, intF, dIsA, isA, List.getElem?_cons_zero, List.getElem?_cons_succ, List.set_cons_zero, List.set_cons_succ, at4_0, at4_1, at4_2, at4_3, ix4_1, ix4_2, ix4_3, List.length_nil, Nat.zero_le, Option.map_some, Option.bind_some, Option.isSome_some, if_true, if_false, Bool.false_eq_true, ite_true, ite_false, isx, Bool.not_true])]
  rw [if_no (cmp_at (call_1 hix hg1) (lc_fix hdr rfl al hll) (ne_bls hp _))]
  rfl
theorem loop_ok {g : Sem1} (hg : ∀ {e : D} {c : Str}, clsOf e = some c → c ∈ clsL → e.pure = true → ∀ hp, g [e] hp = some (.val (.vls (nmL.map fun y => .bl (c == y))), hp)) {w p x i : D} (h1 : p.pure = true) (h2 : x.pure = true) (h3 : i.pure = true) {a b c d e f o9 o10 : Option D} {hp : AH} : ∀ (ds : List D) (o : Option D), (∀ d ∈ ds, ∃ i : Int, d = .int i ∧ 0 ≤ i ∧ i < 34) →
    ∃ o', forL (tgName 7) (turn g) ds [a, b, c, d, e, f, some (.vls (made w p x i)), o, none, o9, o10] hp = some (.next, [a, b, c, d, e, f, some (.vls (made w p x i)), o', none, o9, o10], hp)
  | [], o, _ => ⟨o, rfl⟩
  | z :: ds, o, h => by
    obtain ⟨k, rfl, k0, k1⟩ := h z (List.mem_cons_self ..)
    obtain ⟨o', q⟩ := loop_ok (w := w) (a := a) (b := b) (c := c) (d := d) (e := e) (f := f) (o9 := o9) (o10 := o10) (hp := hp) hg h1 h2 h3 ds (some (.int k)) fun d hd => h d (List.mem_cons_of_mem _ hd)
    refine ⟨o', ?_⟩
    have t := turn_ok (g := g) (dr := dRg rg1 (aCons (dCB lenD (aCons (dVar 6) aNil)) aNil)) hg (w := w) (a := a) (b := b) (c := c) (d := d) (e := e) (f := f) (o9 := o9) (o10 := o10) (hp := hp) h1 h2 h3 k0 k1 (len_src (j := 34) rfl rfl rg_34)
    simp only [forL, tgName, List.set_cons_succ, List.set_cons_zero, Option.bind_some, t, aft]
    exact q
end K00
end

section
set_option maxHeartbeats 4000000
/-! Law: the whole law. -/
namespace MP
open PySem PySem.Spec L2
def D.ok : Nat → D → Bool
  | _, .non => true | _, .bl _ => true | _, .int _ => true | _, .str _ => true
  | n + 1, .tup xs => decide (xs.length ≤ 1000) && xs.all (D.ok n)
  | _, _ => false
theorem ok_pl : ∀ (n : Nat) (d : D), d.ok n = true → d.pl n = true
  | n, .non, _ => by cases n <;> rfl
  | n, .bl _, _ => by cases n <;> rfl
  | n, .int _, _ => by cases n <;> rfl
  | n, .str _, _ => by cases n <;> rfl
  | n, .vls _, h => by cases n <;> cases h
  | n, .ref _, h => by cases n <;> cases h
  | n, .exn _, h => by cases n <;> cases h
  | n, .exf _ _ _, h => by cases n <;> cases h
  | n, .rls _, h => by cases n <;> cases h
  | 0, .tup _, h => by cases h
  | n + 1, .tup xs, h => by
    have h' : (decide (xs.length ≤ 1000) && xs.all (D.ok n)) = true := h
    simp only [Bool.and_eq_true, List.all_eq_true] at h'
    show xs.all (D.pl n) = true
    exact List.all_eq_true.mpr fun x hx => ok_pl n x (h'.2 x hx)
theorem asg_at {e : DE D} {i : Nat} {env : En} {hp h1 : AH} {x : D} (he : e env hp = some (.val x, h1)) : dAsg e (tgName i) env hp = some (.next, env.set i (some x), h1) := by simp only [dAsg, he, bS_val, tgName, Option.map_some]
theorem cons_at2 {a : DE D} {as : DE (List D)} {env : En} {hp h1 h2 : AH} {x : D} {xs : List D} (ha : a env hp = some (.val x, h1)) (has : as env h1 = some (.val xs, h2)) : aCons a as env hp = some (.val (x :: xs), h2) := by simp only [aCons, ha, bE_val, has]
theorem call_n {g : Sem1} {n : Nat} {a : DE (List D)} {env : En} {hp h1 h2 : AH} {xs : List D} {r : D} (ha : a env hp = some (.val xs, h1)) (hn : xs.length = n) (hg : g xs h1 = some (.val r, h2)) : dCall n g a env hp = some (.val r, h2) := by simp only [dCall, ha, bE_val, hn, if_true, hg]
theorem bin_at {f : F2} {a b : DE D} {env : En} {hp h1 h2 : AH} {x y r : D} (ha : a env hp = some (.val x, h1)) (hb : b env h1 = some (.val y, h2)) (hf : f h2 x y = some r) : dBin f a b env hp = some (.val r, h2) := by simp only [dBin, ha, hb, bE_val, hf]
theorem tup_at {a : DE (List D)} {env : En} {hp h1 : AH} {xs : List D} (ha : a env hp = some (.val xs, h1)) (hl : xs.length ≤ 1000) : dTup a env hp = some (.val (.tup xs), h1) := by
  have : xs.length ≤ lim := Nat.le_trans hl (by decide)
  simp only [dTup, ha, bE_val, this, if_true]
theorem fx_at {L : List Str} {f c : Str} {a : DE D} {env : En} {hp : AH} {y : D} (ha : a env hp = some (.val (.exf c f y), hp)) (hc : c ∈ L) : dFx L f a env hp = some (.val y, hp) := by simp only [dFx, ha, bE_val, hc, and_self, if_true]
theorem exf_at {c f : Str} {a : DE D} {env : En} {hp : AH} {y : D} (ha : a env hp = some (.val y, hp)) : dExf c f a env hp = some (.val (.exf c f y), hp) := by simp only [dExf, ha, bE_val]
theorem not_at {c : DE D} {env : En} {hp : AH} (hc : c env hp = some (.val (.bl true), hp)) : tNotD (tVal c) env hp = some (.val false, hp) := by simp only [tNotD, tVal, hc, bE_val, truD, Bool.not_true]
theorem or_at {a b : DE Bool} {env : En} {hp : AH} (ha : a env hp = some (.val false, hp)) (hb : b env hp = some (.val false, hp)) : tOrD a b env hp = some (.val false, hp) := by simp only [tOrD, ha, bE_val, Bool.false_eq_true, if_false, hb]
theorem ret_at {e : DE D} {env : En} {hp h1 : AH} {x : D} (he : e env hp = some (.val x, h1)) : dRet e env hp = some (.ret x, env, h1) := by simp only [dRet, he, bS_val]
theorem addS_at {hp : AH} {s t : Str} (h : s.length + t.length ≤ 1000) : addD hp (.str s) (.str t) = some (.str (s ++ t)) := by
  have : s.length + t.length ≤ lim := Nat.le_trans h (by decide)
  simp only [addD, this, if_true]
theorem new_at {env : En} {hp : AH} : dKeep true (dLim aNil) env hp = some (.val (.ref hp.length), hp ++ [.lst []]) := by
  have : 0 ≤ lim := Nat.zero_le _
  simp only [dKeep, if_true, dNew, dLim, aNil, bE_val, List.length_nil, this]
theorem nx {a b : DS} {env e1 : En} {hp h1 : AH} {r : Option (Fl × En × AH)} (h : a env hp = some (.next, e1, h1)) (k : b e1 h1 = r) : dSeq a b env hp = r := (dSeq_nx h).trans k
theorem asg2_at {e : DE (List D)} {i j : Nat} {env : En} {hp h1 : AH} {x y : D} (he : e env hp = some (.val [x, y], h1)) : dAsg2 i j e env hp = some (.next, (env.set i (some x)).set j (some y), h1) := by simp only [dAsg2, he, bS_val]
theorem slice_at {i : Nat} {s : Str} {env : En} {hp : AH} {k : Int} (hv : env[i]? = some (some (.str s))) (hl : s.length ≤ 1000) : dSlice (dVar i) oNone (oSome (dLit (.int k))) env hp = some (.val (.str (cutS s none (some k))), hp) := by
  have : s.length ≤ lim := Nat.le_trans hl (by decide)
  simp only [dSlice, dVar, hv, bE_val, oNone, oSome, dLit, sliceD, this, if_true]
theorem for_at {di : DE Src} {t : TgD} {b : DS} {R : List D} {env e1 : En} {hp h1 : AH} (h : di env hp = some (.val (.fix R), hp)) (q : forL t b R env hp = some (.next, e1, h1)) : dFor di t b env hp = some (.next, e1, h1) := by simp only [dFor, h, bS_val, q]
theorem exv_at {c : Str} {a : DE D} {env : En} {hp : AH} {y : D} (ha : a env hp = some (.val y, hp)) : dExn c a env hp = some (.val (.exn c), hp) := by simp only [dExn, ha, bE_val]
theorem if_nx {c : DE Bool} {a : DS} {env : En} {hp : AH} (hc : c env hp = some (.val false, hp)) : dIfS c a dNext env hp = some (.next, env, hp) := by simp only [dIfS, hc, bS_val, Bool.false_eq_true, if_false, dNext]
theorem frz_at {a : DE (List D)} {env : En} {hp h1 : AH} {xs : List D} (ha : a env hp = some (.val xs, h1)) (hl : xs.length ≤ 1000) : dKeep false (dLim a) env hp = some (.val (.vls xs), h1) := by
  have : xs.length ≤ lim := Nat.le_trans hl (by decide)
  simp only [dKeep, Bool.false_eq_true, if_false, dFrz, dLim, ha, bE_val, this, if_true]
theorem cb_at {f : FC} {a : DE (List D)} {env : En} {hp h1 : AH} {xs : List D} {r : D} (ha : a env hp = some (.val xs, h1)) (hf : f h1 xs = some r) : dCB f a env hp = some (.val r, h1) := by simp only [dCB, ha, bE_val, hf]
theorem mulF (hp : AH) : mulD hp (.vls [.bl false]) (.int 34) = some (.vls ((List.replicate 34 false).map .bl)) := by
  simp only [mulD, lstOf]
  rw [if_pos (by decide)]
  rfl
theorem mulT (hp : AH) (x : D) : mulD hp (.tup [x]) (.int 3) = some (.tup [x, x, x]) := by
  simp only [mulD]
  rw [if_pos (by simp)]
  rfl
end MP
namespace K00
open PySem PySem.Spec L2 MP
theorem same_ok : ∀ (n : Nat) (d : D), d.ok n = true → ∀ (N : Nat) (hp : AH), sem (N + n + 1) 2 [d, d] hp = some (.val (.bl true), hp) := by
  have step : ∀ (M : Nat) (d : D) (hp : AH), (∃ n, d.pl n = true) → (∀ xs, d = .tup xs → xs.length ≤ 1000 ∧ ∀ x ∈ xs, ∀ hp, sem M 2 [x, x] hp = some (.val (.bl true), hp)) → sem (M + 1) 2 [d, d] hp = some (.val (.bl true), hp) := by
    intro M d hp hd h
    have hpu : D.pures [d, d] = true := by
      obtain ⟨n, hd⟩ := hd
      simp only [D.pures, pl_pure n d hd, Bool.and_self]
    exact runFn_p hpu (same_run (S := sem M) h hd) rfl
  intro n
  induction n with
  | zero =>
    intro d h N hp
    refine step _ d hp ⟨0, ok_pl 0 d h⟩ fun xs e => ?_
    subst e
    cases h
  | succ n ih =>
    intro d h N hp
    refine step _ d hp ⟨n + 1, ok_pl (n + 1) d h⟩ fun xs e => ?_
    subst e
    have h' : (decide (xs.length ≤ 1000) && xs.all (D.ok n)) = true := h
    simp only [Bool.and_eq_true, List.all_eq_true, decide_eq_true_eq] at h'
    exact ⟨h'.1, fun x hx hp => ih x (h'.2 x hx) N hp⟩
theorem pick {w p i : D} {s : Str} {v : Int} (h0 : 0 ≤ v) (h1 : v < 3) (hw : w.ok 0 = true) (hp : p.ok 0 = true) (hi : i.ok 0 = true) : ∃ x, atI [D.tup [w, .non], .tup [w, p, .tup [.str "use", i]], .tup [.str s, w]] v = some x ∧ x.ok 2 = true := by
  have up : ∀ d : D, d.ok 0 = true → ∀ n, d.ok n = true := by
    intro d h n
    cases d <;> first | (cases h; done) | (cases n <;> rfl)
  have e : v = 0 ∨ v = 1 ∨ v = 2 := by omega
  rcases e with rfl | rfl | rfl
  · refine ⟨_, rfl, ?_⟩
    simp [D.ok, up w hw]
  · refine ⟨_, rfl, ?_⟩
    simp [D.ok, up w hw, up p hp, up i hi]
  · refine ⟨_, rfl, ?_⟩
    simp [D.ok, up w hw]
theorem base_ne {c : Str} (h : c = "ChoiceError") : (nmL.map fun y => D.bl (c == y)) = (List.replicate 34 false).map .bl := by
  have e : (nmL.map fun y => D.bl (c == y)) = (nmL.map fun y => c == y).map .bl := by rw [List.map_map]; rfl
  rw [e, h]
  have e2 : (nmL.map fun y => ("ChoiceError" : Str) == y) = List.replicate 34 false := by decide +kernel
  rw [e2]
theorem law_holds (ns : List Int) (hl : ns.length ≤ 63) : ∃ hp', runFn 11 (b_law (sem 11)) [.rls (ns.map .int)] [] = some (.val (.bl true), hp') := by
  obtain ⟨cs, m, h0, I0⟩ := urn_ok (sem 10) hl
  have B : Ball (sem 9 1) := ball_fn (sem 8)
  have R : ∀ hp, sem 9 3 [] hp = some (.val (.tup (resS.map .str)), hp) := res_fn (sem 8)
  obtain ⟨n1, cs1, a1, m1, t1, q1, s1, l1, I1⟩ := name_ok (S := sem 9) B R (first := "abcdefghijklmnopqrstuvwxyz") (l := 0) (r := [.lst []]) I0 (by decide) (by decide +kernel) (by decide +kernel) rfl
  obtain ⟨n2, cs2, a2, m2, t2, q2, s2, l2, I2⟩ := name_ok (S := sem 9) B R (first := "ABCDEFGHIJKLMNOPQRSTUVWXYZ") (l := 1) (r := [.lst [.str n1], .lst []]) I1 (by decide) (by decide +kernel) (by decide +kernel) rfl
  have h5 : sem 11 5 [.ref 1, .ref 2] (UH cs 0 m 0 [.lst []]) = some (.val (.str n1), UH cs1 a1 m1 t1 [.lst [.str n1]]) := low_ok (S := sem 10) q1 (by simp [UH])
  have h6 : sem 11 6 [.ref 1, .ref 3] (UH cs1 a1 m1 t1 [.lst [.str n1], .lst []]) = some (.val (.str n2), UH cs2 a2 m2 t2 [.lst [.str n1], .lst [.str n2]]) := low_ok (S := sem 10) q2 (by simp [UH])
  have B' : Ball (sem 11 1) := ball_fn (sem 10)
  obtain ⟨pl, cs3, a3, m3, t3, q3, _, _, I3⟩ := B' 1000000 [.lst [.str n1], .lst [.str n2]] I2 (by decide) (by decide) (by decide)
  obtain ⟨ix, cs4, a4, m4, t4, q4, _, _, I4⟩ := B' 400 [.lst [.str n1], .lst [.str n2]] I3 (by decide) (by decide) (by decide)
  obtain ⟨se, cs5, a5, m5, t5, q5, p5, p5', I5⟩ := B' 3 [.lst [.str n1], .lst [.str n2]] I4 (by decide) (by decide) (by decide)
  obtain ⟨L, hL⟩ : ∃ L, L = D.rls (ns.map .int) := ⟨_, rfl⟩
  have e0 : sem 11 0 [L] [] = some (.val (.ref 1), UH cs 0 m 0 []) := by rw [hL]; exact h0
  obtain ⟨W, hW⟩ : ∃ W, W = n1 ++ (" " : Str) ++ n2 := ⟨_, rfl⟩
  have sp : (" " : Str).length = 1 := by decide +kernel
  have lW : W.length ≤ 43 := by rw [hW, len_app, len_app, sp]; omega
  obtain ⟨x, q6, ox⟩ := pick (w := .str W) (p := .int pl) (i := .int ix) (s := cutS W none (some 3)) p5 p5' rfl rfl rfl
  have hx : x.pure = true := pl_pure 2 x (ok_pl 2 x ox)
  obtain ⟨hp, hhp⟩ : ∃ hp, hp = UH cs5 a5 m5 t5 [.lst [.str n1], .lst [.str n2]] := ⟨_, rfl⟩
  rw [← hhp] at q5
  have e8 : sem 11 8 [.str W, .int pl, x, .int ix] hp = some (.val (.vls (made (.str W) (.int pl) x (.int ix))), hp) := made_fn (sem 10) rfl rfl hx rfl hp
  have e7 : ∀ {e : D} {c : Str}, clsOf e = some c → c ∈ clsL → e.pure = true → ∀ hp, sem 11 7 [e] hp = some (.val (.vls (nmL.map fun y => .bl (c == y))), hp) := fun a b c hp => classes_fn (sem 10) a b c hp
  obtain ⟨o7, q7⟩ := loop_ok (g := sem 11 7) e7 (w := .str W) (p := .int pl) (x := x) (i := .int ix) rfl hx rfl (a := some L) (b := some (.ref 1)) (c := some (.str W)) (d := some (.int pl)) (e := some (.int ix)) (f := some x) (o9 := none) (o10 := none) (hp := hp) (rngL 0 34) none fun d hd => rngL_mem hd
  obtain ⟨M, hM⟩ : ∃ M, M = made (.str W) (.int pl) x (.int ix) := ⟨_, rfl⟩
  have mlen : ∀ hp, lenD hp [.vls M] = some (.int 34) := fun hp => by rw [hM]; rfl
  have mat : ∀ hp (k : Int) (e : D), atI (made (.str W) (.int pl) x (.int ix)) k = some e → ixD hp (.vls M) (.int k) = some e := fun hp k e h => by rw [hM]; exact h
  have x0 := fun hp => mat hp 0 _ rfl
  have x1 := fun hp => mat hp 1 _ rfl
  have x2 := fun hp => mat hp 2 _ rfl
  have x3 := fun hp => mat hp 3 _ rfl
  have x4 := fun hp => mat hp 4 _ rfl
  have x5 := fun hp => mat hp 5 _ rfl
  rw [← hM] at e8 q7
  have okx : ∀ n, x.ok (n + 2) = true := by
    have up : ∀ n (d : D), d.ok n = true → d.ok (n + 1) = true := by
      intro n
      induction n with
      | zero => intro d h; cases d <;> first | (cases h; done) | rfl
      | succ n ih =>
        intro d h
        cases d with
        | tup xs =>
          have h' : (decide (xs.length ≤ 1000) && xs.all (D.ok n)) = true := h
          simp only [Bool.and_eq_true, List.all_eq_true] at h'
          show (decide (xs.length ≤ 1000) && xs.all (D.ok (n + 1))) = true
          simp only [Bool.and_eq_true, List.all_eq_true]
          exact ⟨h'.1, fun y hy => ih y (h'.2 y hy)⟩
        | non => rfl
        | bl _ => rfl
        | int _ => rfl
        | str _ => rfl
        | vls _ => cases h
        | ref _ => cases h
        | exn _ => cases h
        | exf _ _ _ => cases h
        | rls _ => cases h
    intro n
    induction n with
    | zero => exact ox
    | succ n ih => exact up _ _ ih
  have ok2 := okx 0
  have f1 : sem 11 2 [.tup [.int pl, x, x, x, x, .int ix], .tup [.int pl, x, x, x, x, .int ix]] hp = some (.val (.bl true), hp) := same_ok 3 _ (by simp [D.ok, ok2]) 7 hp
  have f2 : sem 11 2 [.tup [.int ix, x, .int pl], .tup [.int ix, x, .int pl]] hp = some (.val (.bl true), hp) := same_ok 3 _ (by simp [D.ok, ok2]) 7 hp
  have f3 : sem 11 2 [.tup [x, x, x], .tup [x, x, x]] hp = some (.val (.bl true), hp) := same_ok 3 _ (by simp [D.ok, ok2]) 7 hp
  have c1 : ("BadText" : Str) ∈ clsL := by decide +kernel
  have c2 : ("NotChecked" : Str) ∈ clsL := by decide +kernel
  have c3 : ("NotGood" : Str) ∈ clsL := by decide +kernel
  have c4 : ("NotTyped" : Str) ∈ clsL := by decide +kernel
  have c5 : ("NotJoined" : Str) ∈ clsL := by decide +kernel
  have c6 : ("Untyped" : Str) ∈ clsL := by decide +kernel
  have g1 : n1.length + (" " : Str).length ≤ 1000 := by rw [sp]; omega
  have g2 : (n1 ++ (" " : Str)).length + n2.length ≤ 1000 := by rw [len_app, sp]; omega
  have g3 : W.length ≤ 1000 := by omega
  have memC : ("ChoiceError" : Str) ∈ clsL := by decide +kernel
  refine ⟨[], ?_⟩
  refine runFn_p (e1 := [some L, some (.ref 1), some (.str W), some (.int pl), some (.int ix), some x, some (.vls M), o7, none, some (.exn "ChoiceError"), some (.tup [.int ix, x, .int pl])]) (h1 := hp) (by simp only [D.pures, D.pure, pures_int, Bool.and_self]) ?_ rfl
  rw [← hL]
  have st : startE 11 [L] = [some L, none, none, none, none, none, none, none, none, none, none] := rfl
  rw [st]
  unfold b_law
  refine nx (asg_at (call_n (cons_at2 rfl rfl) rfl e0)) ?_
  refine nx (asg_at (bin_at (bin_at (call_n (cons_at2 rfl (cons_at2 new_at rfl)) rfl h5) rfl (addS_at g1)) (call_n (cons_at2 rfl (cons_at2 new_at rfl)) rfl h6) (addS_at g2))) ?_
  rw [← hW]
  refine nx (asg2_at (cons_at2 (call_n (cons_at2 rfl (cons_at2 (bin_at rfl rfl (pow_6 _)) rfl)) rfl q3) (cons_at2 (call_n (cons_at2 rfl (cons_at2 rfl rfl)) rfl q4) rfl))) ?_
  refine nx (asg_at (bin_at (tup_at (cons_at2 (tup_at (cons_at2 rfl (cons_at2 rfl rfl)) (by simp)) (cons_at2 (tup_at (cons_at2 rfl (cons_at2 rfl (cons_at2 (tup_at (cons_at2 rfl (cons_at2 rfl rfl)) (by simp)) rfl))) (by simp)) (cons_at2 (tup_at (cons_at2 (slice_at rfl g3) (cons_at2 rfl rfl)) (by simp)) rfl))) (by simp)) (call_n (cons_at2 rfl (cons_at2 rfl rfl)) rfl q5) q6)) ?_
  refine nx (asg_at (call_n (cons_at2 rfl (cons_at2 rfl (cons_at2 rfl (cons_at2 rfl rfl)))) rfl e8)) ?_
  refine nx (for_at (len_src (j := 34) rfl (mlen _) rg_34) q7) ?_
  refine nx (asg_at (exv_at rfl)) ?_
  refine nx (if_nx (or_at (not_at (isX_at rfl rfl memC)) (cmp_at (call_1 rfl (e7 rfl memC rfl hp)) (bin_at (frz_at (cons_at2 rfl rfl) (by simp)) (cb_at (cons_at2 rfl rfl) (mlen _)) (mulF _)) (by rw [base_ne rfl]; exact ne_bls _ _)))) ?_
  refine nx (asg_at (tup_at (cons_at2 (fx_at (bin_at rfl rfl (x0 _)) c1) (cons_at2 (fx_at (bin_at rfl rfl (x1 _)) c2) (cons_at2 (fx_at (bin_at rfl rfl (x2 _)) c3) (cons_at2 (fx_at (bin_at rfl rfl (x3 _)) c4) (cons_at2 (fx_at (bin_at rfl rfl (x4 _)) c5) (cons_at2 (fx_at (bin_at rfl rfl (x5 _)) c6) rfl)))))) (by simp))) ?_
  refine nx (if_nx (not_at (call_n (cons_at2 rfl (cons_at2 (tup_at (cons_at2 rfl (cons_at2 rfl (cons_at2 rfl (cons_at2 rfl (cons_at2 rfl (cons_at2 rfl rfl)))))) (by simp)) rfl)) rfl f1))) ?_
  refine nx (asg_at (tup_at (cons_at2 (fx_at (exf_at rfl) c1) (cons_at2 (fx_at (exf_at rfl) c2) (cons_at2 (fx_at (exf_at rfl) c6) rfl))) (by simp))) ?_
  refine nx (if_nx (not_at (call_n (cons_at2 rfl (cons_at2 (tup_at (cons_at2 rfl (cons_at2 rfl (cons_at2 rfl rfl))) (by simp)) rfl)) rfl f2))) ?_
  exact ret_at (call_n (cons_at2 (tup_at (cons_at2 (fx_at (exf_at rfl) c3) (cons_at2 (fx_at (exf_at rfl) c4) (cons_at2 (fx_at (exf_at rfl) c5) rfl))) (by simp)) (cons_at2 (bin_at (tup_at (cons_at2 rfl rfl) (by simp)) rfl (mulT _ _)) rfl)) rfl f3)
end K00
end

section
set_option maxHeartbeats 0
open PySem PySem.W PySem.Calls PyProof.Rows
theorem PySem.Challenge.cw_waychosen_k00_errors_holds : PySem.Challenge.rw_waychosen_k00_errors.Holds := by
  w_on; o_law
  refine HandSHeadRun.head_any (r := OpenLaw.row PySem.Challenge.rw_waychosen_k00_errors) (q := view (OpenLaw.row PySem.Challenge.rw_waychosen_k00_errors).prog [46]) (H := K00.hk) (ob := K00.ob) (M := 12000) (loose := K00.loose) (d := HandSHeadRun.topDef (OpenLaw.row PySem.Challenge.rw_waychosen_k00_errors).prog 46) (kwd := []) K00.ob_eq
    (by kernel_rfl) (fun s => by kernel_rfl) K00.run (by kernel_rfl) (by kernel_rfl) (by kernel_rfl) (by rfl) (by first | assumption | decide +kernel) (by decide +kernel) ⟨rfl, rfl, rfl, rfl, rfl, by decide +kernel⟩ ?hw ?hc
  case hw => w_witness2
  case hc =>
    refine L2.walk_ofE (l := PySem.Challenge.rw_waychosen_k00_errors) (n := 63) (k := 13) (x := "script") (CX := L2.CX0) rfl (by decide) (by kernel_rfl) ⟨rfl, by decide, by decide⟩ ?F (fun _ _ _ _ z => z)
    intro w mg fa h Y G hmg0
    obtain ⟨K, KX, c⟩ := Y
    have hmg : mg ("law" : PySem.Str) = some (.ref fa) := by
      have e : (HandSHeadRun.topDef (OpenLaw.row PySem.Challenge.rw_waychosen_k00_errors).prog 46).name = ("law" : PySem.Str) := by kernel_rfl
      rw [← e]
      exact hmg0
    obtain ⟨F, D⟩ := K00.facts KX G c
    have e := hmg.symm.trans D.d_law.at_
    cases e
    obtain ⟨fd, U⟩ := D.d_law.fn
    refine ⟨K, fd, _, KX, fun s v => U.bindsA D.d_law.bind s [v] rfl, fun H a ns hl hO hS => ?_, fun base _ _ => MP.fnOk_cx0 (K00.o_law F (K00.all F D 11) U)⟩
    obtain ⟨hp', e⟩ := K00.law_holds ns hl
    exact MP.law_sp hO hS e
end
