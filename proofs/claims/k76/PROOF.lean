import PyProof.Rows.All
import Wide.All
import OpenK.AllK
import Wide.FinOn
import HandS.ForMost
import HandS.Exc
import HandS.Ends
import HandS.TryMany
import HandS.Wide
import HandS.Conv
import HandS.IsInst
import HandS.SortInts
import HandS.Style
import HandS.Zip
import HandS.Deep
import HandS.Star
import HandS.Flow
import HandS.ExcOwn
import HandS.TupAny
import KE.GoesEnum
import KE.GoesZip
import KE.GoesMore
import HandS.Walk
import HandS.Comp
import HandS.TryOnly
import PySem.Challenge.RW_sidestaken_k76_whole_points_fair_from_th
set_option Elab.async false
set_option linter.all false
set_option maxRecDepth 100000
/-! SdB: how arguments come to plain parameters. -/
namespace Sd
open PySem PySem.Spec PyProof.Rows L2
/-- parameters without defaults, none by its place or its name alone -/
structure PlainPs (p : Arguments) : Prop where
  a : p.posonlyargs = []
  b : p.vararg = none
  c : p.kwonlyargs = []
  d : p.kwarg = none
def perm {α : Type} (d : α) (ps ks : List Str) (as kas : List α) : List α := as ++ (ps.drop as.length).map fun p => ((ks.zip kas).lookup p).getD d
def permOk (ps ks : List Str) (na nk : Nat) : Bool := decide (na + nk = ps.length) && decide (ks.length = nk) && decide ks.Nodup && (ks.all fun k => (ps.drop na).contains k) && (ps.drop na).all fun k => ks.contains k
theorem kw_loop {β : Type} {normal : List Str} {F : Str × Value → List (Str × Value) × β → Sem (ForInStep (List (Str × Value) × β))}
    (hF : ∀ x s, normal.contains x.1 = true → (s.1.lookup x.1).isSome = false → F x s = pure (.yield (s.1 ++ [(x.1, x.2)], s.2))) :
    ∀ (kw : List (Str × Value)) (s : List (Str × Value) × β), (∀ x ∈ kw, normal.contains x.1 = true) → (kw.map (·.1)).Nodup → (∀ x ∈ kw, s.1.lookup x.1 = none) → forIn kw s F = pure (s.1 ++ kw, s.2)
  | [], s, _, _, _ => by rw [List.forIn_nil, List.append_nil]
  | x :: kw, s, h1, h2, h3 => by
    rw [List.forIn_cons, hF x s (h1 x List.mem_cons_self) (by rw [h3 x List.mem_cons_self]; rfl)]
    have h2' := List.nodup_cons.mp (by simpa using h2 : (x.1 :: kw.map (·.1)).Nodup)
    have ih := kw_loop hF kw (s.1 ++ [(x.1, x.2)], s.2) (fun z hz => h1 z (List.mem_cons_of_mem _ hz)) h2'.2 (fun z hz => by
      show (s.1 ++ [(x.1, x.2)]).lookup z.1 = none
      rw [List.lookup_append, h3 z (List.mem_cons_of_mem _ hz)]
      have ne : (z.1 == x.1) = false := by
        rw [beq_eq_false_iff_ne]
        exact fun e => h2'.1 (e ▸ List.mem_map_of_mem hz)
      simp [List.lookup_cons, ne])
    show forIn kw (s.1 ++ [(x.1, x.2)], s.2) F = _
    rw [ih]
    simp
theorem lookup_zip_none {α : Type} : ∀ (ps : List Str) (us : List α) (k : Str), k ∉ ps.take us.length → (ps.zip us).lookup k = none
  | [], _, _, _ => rfl
  | _ :: _, [], _, _ => rfl
  | p :: ps, u :: us, k, h => by
    have h' : k ≠ p ∧ k ∉ ps.take us.length := by simpa using h
    rw [List.zip_cons_cons, List.lookup_cons]
    have ne : (k == p) = false := by rw [beq_eq_false_iff_ne]; exact h'.1
    rw [ne]
    exact lookup_zip_none ps us k h'.2
theorem lookup_zip_some {α : Type} : ∀ (ps : List Str) (us : List α) (i : Nat) (k : Str) (u : α), ps.Nodup → ps[i]? = some k → us[i]? = some u → (ps.zip us).lookup k = some u
  | [], _, _, _, _, _, h, _ => by simp at h
  | _ :: _, [], _, _, _, _, _, h => by simp at h
  | p :: ps, w :: us, 0, k, u, nd, h1, h2 => by
    simp at h1 h2; subst h1; subst h2
    simp [List.lookup_cons]
  | p :: ps, w :: us, i + 1, k, u, nd, h1, h2 => by
    have ne : (k == p) = false := by
      rw [beq_eq_false_iff_ne]
      rintro rfl
      exact (List.nodup_cons.mp nd).1 (List.mem_of_getElem? (by simpa using h1))
    rw [List.zip_cons_cons, List.lookup_cons, ne]
    exact lookup_zip_some ps us i k u (List.nodup_cons.mp nd).2 (by simpa using h1) (by simpa using h2)
theorem filterMap_zip {ps : List Str} {l : List Value} {S : List (Str × Value)} (hl : l.length = ps.length) (h : ∀ i (hi : i < ps.length), S.lookup ps[i] = l[i]?) : (ps.filterMap fun n => (S.lookup n).map (n, ·)) = ps.zip l := by
  induction ps generalizing l with
  | nil => rfl
  | cons p ps ih =>
    cases l with
    | nil => simp at hl
    | cons v l =>
      have h0 := h 0 (by simp)
      simp at h0
      rw [List.filterMap_cons, h0]
      show (p, v) :: _ = (p, v) :: _
      rw [ih (by simpa using hl) (fun i hi => by have := h (i + 1) (by simpa using hi); simpa using this)]
      rfl
theorem seqNone : seqItems? .none = pure none := rfl
theorem bind_plain {fd : FuncData} (h : PlainPs fd.params) (hd : fd.defaults = .none) {ps : List Str} (hps : fd.params.args.map (·.arg) = ps) (nd : ps.Nodup) {ks : List Str} {us ws : List Value} (ok : permOk ps ks us.length ws.length = true) :
    bindArgs fd ⟨us, ks.zip ws⟩ = pure (ps.zip (perm .none ps ks us ws)) := by
  simp only [permOk, Bool.and_eq_true, decide_eq_true_eq, List.all_eq_true, List.contains_iff_mem] at ok
  obtain ⟨⟨⟨⟨o1, o2⟩, o3⟩, o4⟩, o5⟩ := ok
  have keys : (ks.zip ws).map (·.1) = ks := by
    rw [List.map_fst_zip]; omega
  have off : ∀ k ∈ ks, (ps.zip us).lookup k = none := fun k hk => by
    refine lookup_zip_none ps us k fun hm => ?_
    have h4 := o4 k hk
    obtain ⟨i, hi⟩ := List.getElem?_of_mem hm
    obtain ⟨j, hj⟩ := List.getElem?_of_mem h4
    have hi' : i < us.length ∧ ps[i]? = some k := by
      rw [List.getElem?_take] at hi
      split at hi
      · exact ⟨by assumption, hi⟩
      · cases hi
    rw [List.getElem?_drop] at hj
    have := nodup_ix nd hi'.2 hj
    omega
  have hl : (perm .none ps ks us ws).length = ps.length := by
    unfold perm
    rw [List.length_append, List.length_map, List.length_drop]; omega
  have at_ : ∀ i (hi : i < ps.length), (ps.zip us ++ ks.zip ws).lookup ps[i] = (perm .none ps ks us ws)[i]? := fun i hi => by
    rw [List.lookup_append]
    unfold perm
    by_cases hu : i < us.length
    · rw [lookup_zip_some ps us i ps[i] us[i] nd (List.getElem?_eq_getElem hi) (List.getElem?_eq_getElem hu), List.getElem?_append_left hu, List.getElem?_eq_getElem hu]
      rfl
    · have h0 : (ps.zip us).lookup ps[i] = none := lookup_zip_none ps us _ fun hm => by
        obtain ⟨j, hj⟩ := List.getElem?_of_mem hm
        rw [List.getElem?_take] at hj
        split at hj
        · have := nodup_ix nd hj (List.getElem?_eq_getElem hi)
          omega
        · cases hj
      rw [h0, List.getElem?_append_right (by omega), List.getElem?_map, List.getElem?_drop]
      have e : us.length + (i - us.length) = i := by omega
      rw [e, List.getElem?_eq_getElem hi]
      have hk : ps[i] ∈ ks := o5 _ (by
        have : (ps.drop us.length)[i - us.length]? = some ps[i] := by rw [List.getElem?_drop, e, List.getElem?_eq_getElem hi]
        exact List.mem_of_getElem? this)
      obtain ⟨j, hj⟩ := List.getElem?_of_mem hk
      have hjl : j < ws.length := by rw [← o2]; exact (List.getElem?_eq_some_iff.mp hj).1
      have hz := lookup_zip_some ks ws j ps[i] ws[j] o3 hj (List.getElem?_eq_getElem hjl)
      rw [hz, Option.map_some, hz]; rfl
  have miss : (ps.filter fun n => ((ps.zip us ++ ks.zip ws).lookup n).isNone) = [] := by
    rw [List.filter_eq_nil_iff]
    intro n hn
    obtain ⟨i, hi⟩ := List.getElem?_of_mem hn
    obtain ⟨hi1, hi2⟩ := List.getElem?_eq_some_iff.mp hi
    rw [← hi2, at_ i hi1, List.getElem?_eq_getElem (by omega)]
    simp
  unfold bindArgs
  simp only [h.a, h.b, h.c, h.d, hd, hps, List.map_nil, List.nil_append, List.append_nil]
  rw [kw_loop (normal := ps) (fun x s h1 h2 => by
    simp only [h1, h2, Bool.true_or, if_true, Bool.false_eq_true, if_false]) (ks.zip ws) (ps.zip us, []) (fun x hx => ?_) (by rw [keys]; exact o3) (fun x hx => off x.1 (List.of_mem_zip hx).1)]
  · rw [seqNone]
    simp only [pure_bind, Option.getD_none, List.isEmpty_nil]
    rw [if_neg (by simp; omega)]
    simp only [List.drop_nil, List.length_nil, Nat.sub_zero, List.take_length, List.zip_nil_right, List.forIn_nil, pure_bind]
    rw [miss]
    simp only [List.isEmpty_nil, Bool.not_true, Bool.false_eq_true, if_false]
    rw [filterMap_zip hl at_]
  · have := o4 x.1 (List.of_mem_zip hx).1
    rw [List.contains_iff_mem]; exact List.mem_of_mem_drop this
end Sd

/-! SdG: promises of defs that are called where no list's text is being made. -/
namespace Sd
open PySem PySem.Spec PyProof.Rows L2
/-- room, and no container's text is under way -/
structure RoomG (k : Nat) (A : Around) : Prop where
  r : Room k A
  g : A.guards = some []
theorem RoomG.mono {j k : Nat} {A : Around} (h : RoomG k A) (l : j ≤ k) : RoomG j A := ⟨h.r.mono l, h.g⟩
theorem RoomG.deeper {k : Nat} {A : Around} (h : RoomG (k + 1) A) (env : Env) : RoomG k (A.deeper env) := ⟨h.r.deeper env, h.g⟩
structure FnG (P : Program) (w : World) (K : PySem.W.Frag) (mg : Str → Option Value) (base : Heap) (CX : CXT) (k : Nat) (f : Addr) (fd : FuncData) (ps : List Str) (sp : Sp) : Prop where
  len : ∀ vs H Q E, sp vs H Q E → vs.length = ps.length
  run : ∀ {A : Around} {outer : List Env} {s : Shared} {H : Hp} {args : Args} {us : List Value} {vs : List V} {Q : VK} {E : XK}, RoomG k A → Env0 P w K mg base A outer s H → BindsTo s fd args (ps.zip us) → Vals vs us → sp vs H Q E →
    codeAny (model P w) A (.call (.ref f) args) (CR CX outer P w H s Q E) s
section
variable {P : Program} {w : World} {K : PySem.W.Frag} {mg : Str → Option Value} {base : Heap} {CX : CXT} {j k : Nat} {f : Addr} {fd : FuncData} {ps : List Str} {sp sp' : Sp}
theorem FnG.mono (F : FnG P w K mg base CX j f fd ps sp) (h : j ≤ k) : FnG P w K mg base CX k f fd ps sp := ⟨F.len, fun r e b v q => F.run (r.mono h) e b v q⟩
theorem FnG.imp (F : FnG P w K mg base CX k f fd ps sp) (h : ∀ vs H Q E, sp' vs H Q E → sp vs H Q E) : FnG P w K mg base CX k f fd ps sp' := ⟨fun vs H Q E q => F.len vs H Q E (h _ _ _ _ q), fun r e b v q => F.run r e b v (h _ _ _ _ q)⟩
end
/-- a def by its body -/
theorem fn_ofG {CX : CXT} {P : Program} {w : World} {K : PySem.W.Frag} {mg : Str → Option Value} {base : Heap} {k : Nat} {f : Addr} {x qual : Str} {params : Arguments} {body : List Stmt} {sc : Scope} {dV kV doc pm cdv ct oc : Value} {an od : Option Addr} {osl : Array (Option Value)} {N ps : List Str} {sp : Sp}
    (lk : K.lookup f = some ⟨oc, od, .func (PySem.W.fnOf x qual params body sc dV kV doc pm an cdv ct), osl⟩) (hcd : PySem.W.codeIn K cdv qual = true) (S : FnScope N ps sc) (len : ∀ vs H Q E, sp vs H Q E → vs.length = ps.length)
    (walk : ∀ (A : Around) (outer : List Env) (s : Shared) (H : Hp) (vs : List V) (Q : VK) (E : XK), RoomG k (A.deeper (envOfC qual sc s.heap.objs.size f cdv)) → sp vs H Q E → ∃ t, PSs (cxOf CX P w K mg base N qual sc f cdv A outer s H E) body t ∧ t { nx := fun _ H' => Q .non H', rt := Q } (start N vs) H) :
    FnG P w K mg base CX (k + 1) f (PySem.W.fnOf x qual params body sc dV kV doc pm an cdv ct) ps sp where
  len := len
  run {A outer s H args us vs Q E} room e0 hb rv hsp := by
    have kept : ∀ b o, base.get? b = some o → s.heap.get? b = some o := fun b o e => (e0.bs b o e).1
    have kin := e0.mod.kin.keeps kept
    have nolim := e0.mod.nolimit.keeps kept
    have cells : ∀ z ∈ ps.zip us, sc.names.lookup z.1 = some .local ∨ (sc.names.lookup z.1 = some .cell ∧ ((cellsFrom (s.heap.objs.size + 1) sc.names []).lookup z.1).isSome = true) := by
      rintro ⟨n, v⟩ hz
      exact (S.par n (List.of_mem_zip hz).1).imp id fun q => ⟨q, PySem.W.cellsFrom_some _ _ _ (.inl q)⟩
    refine codeAny_call_function room.r.depth (kin _ _ lk) rfl S.co S.gen rfl (PySem.W.codeRec_of kin hcd) (hb _ _ _ _ (wpAny_newFunctionEnv_cells S.kind cells fun env he s1 x => ?_))
    subst he
    refine ⟨nolim.keeps x.toInCall.keep, codeAny_func ?_⟩
    obtain ⟨t, ht, hq⟩ := walk A outer s H vs Q E (room.deeper _) hsp
    refine wpAny_mono (ht.run [] s1 (start N vs) H _ (inv_start S room.r.hd e0 (len _ _ _ _ hsp) rv x) hq) (fun fl s' hs => ?_) fun _ _ z => z
    cases fl with
    | ret u => obtain ⟨v, σ', H', J, rv', q⟩ := hs; exact ⟨v, H', J.os, J.bare, J.base, J.hok, rv', q⟩
    | next => obtain ⟨σ', H', J, q⟩ := hs; exact ⟨.non, H', J.os, J.bare, J.base, J.hok, rfl, q⟩
    | brk => obtain ⟨_, _, _, q⟩ := hs; exact q.elim
    | cont => obtain ⟨_, _, _, q⟩ := hs; exact q.elim
end Sd

/-! SdG2: the law's call. -/
namespace Sd
open PySem PySem.Spec PyProof.Rows L2
section
variable {P : Program} {w : World} {K : PySem.W.Frag} {mg mb : Str → Option Value} {CX : CXT} {k : Nat} {fa a : Addr} {fd : FuncData} {x : Str} {sp : Sp} {s : Shared} {vs : List Value} {ns : List Int}
/-- the law called over a heap of which at most the script is told -/
theorem law_go {H : Hp} (kin0 : K.In s.heap) (hns : s.heap.Ns mainGlobals mg) (hb : s.heap.Ns builtinsNs mb) (hbb : ∀ x : Str, x ≠ "__name__" → mb x = bootBuiltins x) (hlim : s.heap.NoLimit) (hg : s.gens = #[])
    (ha : s.heap.get? a = some { cls := .type "list", data := .seq vs.toArray }) (room : RoomG k callerA) (F : ∀ base : Heap, K.In base → base.Ns mainGlobals mg → FnG P w K mg base CX k fa fd [x] sp) (bind : ∀ (s : Shared) (u : Value), BindsTo s fd ⟨[u], []⟩ [(x, u)])
    (hp : sp [.ref a] H (fun v _ => v = .bl true) fun _ _ _ => False) (hCX : ∀ H e s', CX [] H s (fun _ _ _ => False) e s' → False) (hok : HOk P w H s.heap) (only : ∀ b u, H b = some u → b = a ∧ ∃ o xs, u = .frz o (.lst xs)) (kno : ∀ u, H a = some u → K.lookup a = none) :
    codeAny (model P w) callerA (.call (.ref fa) ⟨[.ref a], []⟩) (fun r s' => r = .ok (.ret (.bool true)) ∧ OldK s.heap s'.heap ∧ s'.os = s.os ∧ AllBare s'.gens) s := by
  have away : ∀ {b}, b ≠ a → H b = none := fun {b} h => by
    cases e : H b with
    | none => rfl
    | some u => exact absurd (only b u e).1 h
  -- dicts and what the module keeps are not told
  have dictNo : ∀ {b : Addr} {o : Obj} {es : Array DictEntry} {n : Nat}, s.heap.get? b = some o → o.data = .dict es n → H b = none := fun {b o es n} e d => away fun z => by
    subst z
    rw [ha] at e
    cases e
    exact absurd (show Data.seq vs.toArray _ = Data.dict es n from d) (fun z => by cases z)
  have keepNs : ∀ {b : Addr} {m : Str → Option Value}, s.heap.Ns b m → (hidT s.heap H).Ns b m := fun ⟨o, es, n, e, d, r⟩ => ⟨o, es, n, hidT_get e (dictNo e d), d, r⟩
  have kinB : K.In (hidT s.heap H) := fun b o e => hidT_get (kin0 b o e) (by
    cases z : H b with
    | none => rfl
    | some u =>
      obtain ⟨rfl, _⟩ := only b u z
      rw [kno u z] at e
      cases e)
  have md : Mod K mg (hidT s.heap H) := by
    obtain ⟨mc, m1, m2⟩ := hlim
    exact ⟨kinB, keepNs hns, ⟨mb, keepNs hb, hbb⟩, mc, keepNs m1, m2⟩
  have env : Env0 P w K mg (hidT s.heap H) callerA [] s H := ⟨rfl, md, fun _ _ => of_hidT, Nat.le_of_eq (hidT_size _ _), trivial, fun b hb => absurd (show b ∈ ([] : List Addr) from hb) (by simp), hok, .of_eq hg⟩
  have call := (F _ kinB (keepNs hns)).run (us := [.ref a]) (vs := [.ref a]) room env (bind s (.ref a)) (.cons rfl .nil) hp
  refine codeAny_mono call fun r s' h => ?_
  match r, h with
  | .error e, h => exact absurd h (hCX H e s')
  | .ok .next, h => exact False.elim h
  | .ok .brk, h => exact False.elim h
  | .ok .cont, h => exact False.elim h
  | .ok (.ret u), ⟨v, H', os, bare, un, hok', rv, q⟩ =>
    have q : v = .bl true := q
    subst q
    have rv : u = Value.bool true := rv
    subst rv
    refine ⟨rfl, OldK.of_keep fun b o e => ?_, os, bare⟩
    cases z : H b with
    | none => exact un.keep b o e z (by simp [frs]) (by simp)
    | some t =>
      obtain ⟨_, ob, xs, rfl⟩ := only b t z
      have o1 := (hok b _ z).1
      have o2 := (hok' b _ (un.frzs b ob _ z)).1
      rw [e] at o1
      cases o1
      exact o2
theorem law_callG (kin0 : K.In s.heap) (hns : s.heap.Ns mainGlobals mg) (hb : s.heap.Ns builtinsNs mb) (hbb : ∀ x : Str, x ≠ "__name__" → mb x = bootBuiltins x) (hlim : s.heap.NoLimit) (hg : s.gens = #[])
    (ha : s.heap.get? a = some { cls := .type "list", data := .seq vs.toArray }) (hi : IntsAre vs ns) (hl : ns.length ≤ sizeLine) (room : RoomG k callerA) (F : ∀ base : Heap, K.In base → base.Ns mainGlobals mg → FnG P w K mg base CX k fa fd [x] sp) (bind : ∀ (s : Shared) (u : Value), BindsTo s fd ⟨[u], []⟩ [(x, u)])
    (hp : ∀ H : Hp, SqL K H a (ns.map V.int) → sp [.ref a] H (fun v _ => v = .bl true) fun _ _ _ => False) (hCX : ∀ H e s', CX [] H s (fun _ _ _ => False) e s' → False) :
    codeAny (model P w) callerA (.call (.ref fa) ⟨[.ref a], []⟩) (fun r s' => r = .ok (.ret (.bool true)) ∧ OldK s.heap s'.heap ∧ s'.os = s.os ∧ AllBare s'.gens) s := by
  have rv := vals_ints hi
  cases hk : K.lookup a with
  | some o =>
    have e := (kin0 a o hk).symm.trans ha
    cases e
    exact law_go (H := fun _ => none) kin0 hns hb hbb hlim hg ha room F bind (hp _ (.inr ⟨_, vs.toArray, _, hk, rfl, rfl, rfl, by rw [List.size_toArray, hi.length]; exact hl, by simpa using rv⟩)) hCX (fun b u z => by cases z) (fun b u z => by cases z) fun u z => by cases z
  | none =>
    have at_ : ∀ {b u}, (if b = a then some (HO.frz { cls := .type "list", data := .seq vs.toArray } (.lst (ns.map V.int))) else none) = some u → b = a ∧ u = .frz { cls := .type "list", data := .seq vs.toArray } (.lst (ns.map V.int)) := fun {b u} z => by
      split at z
      · rename_i e; cases z; exact ⟨e, rfl⟩
      · cases z
    refine law_go (H := fun b => if b = a then some (.frz { cls := .type "list", data := .seq vs.toArray } (.lst (ns.map V.int))) else none) kin0 hns hb hbb hlim hg ha room F bind (hp _ (.inl (.inr ⟨_, if_pos rfl⟩))) hCX (fun b u z => ?_) (fun b u z => ?_) fun _ _ => hk
    · obtain ⟨rfl, rfl⟩ := at_ z
      exact ⟨ha, by rw [List.length_map]; exact hl, vs, _, rv, ha⟩
    · obtain ⟨e, rfl⟩ := at_ z
      exact ⟨e, _, _, rfl⟩
end
theorem walk_ofG {l : PySem.W.OpenLaw} {n k : Nat} {q : Program} {loose : List Str} {XP : (Str → Option Value) → Heap → Prop} {YP : World → Heap → Prop} {d : DefRec} {K : Params → PySem.W.Frag} {CX : World → CXT} {sp : World → Sp} {x : Str}
    (hn : l.most = some n) (hn2 : n ≤ sizeLine) (hdf : d.params.defaults = []) (room : RoomG k callerA) (hY : ∀ (w : World) (h : Heap), YP w h → (K w.params).In h)
    (F : ∀ (w : World) (mg : Str → Option Value) (fa : Addr) (h : Heap), (K w.params).In h → h.Ns mainGlobals mg → mg d.name = some (.ref fa) → ∃ fd : FuncData, (∀ (s : Shared) (u : Value), BindsTo s fd ⟨[u], []⟩ [(x, u)]) ∧ ∀ base : Heap, (K w.params).In base → base.Ns mainGlobals mg → FnG l.prog w (K w.params) mg base (CX w) k fa fd [x] (sp w))
    (hp : ∀ (w : World) (H : Hp) (a : Addr) (ns : List Int), ns.length ≤ n → SqL (K w.params) H a (ns.map V.int) → sp w [.ref a] H (fun v _ => v = .bl true) fun _ _ _ => False) (hCX : ∀ (w : World) (H : Hp) (s : Shared) (e : Value) (s' : Shared), CX w [] H s (fun _ _ _ => False) e s' → False) :
    PySem.W.WalkO q loose XP YP l.row.toRowW d [] (fun f vs => PySem.call f vs) := by
  refine Att.attach_call hn hdf fun w s0 s1 mg mb fa o pm cd doc a vs ns G Y ho hd hcd hmg hobj hints hlen hg => ?_
  obtain ⟨fd, hb, hF⟩ := F w mg fa _ (hY w _ Y) G.T.g hmg
  exact law_callG (hY w _ Y) G.T.g G.T.b G.T.builtins G.T.nolimit hg hobj hints (Nat.le_trans hlen hn2) room hF hb (fun H hS => hp w H a ns hlen hS) fun H e s' => hCX w H s1 e s'
end Sd

/-! Sd0: plain data, the little language IL, its evaluator. -/
namespace Sd
open PySem PySem.Spec PyProof.Rows L2

/-! ### data -/
/-- a dict's key -/
inductive DK where
  | k (x : Key) | t (xs : List Key)
  deriving DecidableEq
/-- plain data: dicts by their keys and values, in order; the g-th stream of draws -/
inductive D where
  | non | bl (b : Bool) | int (i : Int) | str (x : Str)
  | lst (xs : List D) | tup (xs : List D)
  | dic (ks : List DK) (vs : List D)
  | stm (g : Nat)
  | obj (a : Addr)
  deriving Inhabited
/-- a stream of draws: cells left, the great one, how often, the mix -/
structure Stm where
  cells : List Int
  cur : Int
  cnt : Int
  mix : Int
  deriving Inhabited

mutual
/-- nothing in it can change -/
def imm : D → Bool
  | .non => true | .bl _ => true | .int _ => true | .str _ => true
  | .lst _ => false | .dic _ _ => false
  | .tup xs => imms xs
  | .stm _ => true
  | .obj _ => true
def imms : List D → Bool
  | [] => true
  | d :: ds => imm d && imms ds
end

/-! ### regions: from lo on, up to hi -/
structure Fl where
  lo : Nat
  hi : Nat
  deriving DecidableEq, Inhabited
def big : Nat := 1000000
def Fl.top : Fl := ⟨big, 0⟩
def Fl.join (a b : Fl) : Fl := ⟨min a.lo b.lo, max a.hi b.hi⟩
/-- the region at hand -/
def Fl.at (lv : Nat) : Fl := ⟨lv, lv⟩
def nrm (d : D) (f : Fl) : Fl := if imm d then Fl.top else f
def Fl.clamp (lv : Nat) (f : Fl) : Fl := if f.lo > f.hi then Fl.top else ⟨min f.lo lv, min f.hi lv⟩

/-! ### state -/
inductive Slot where
  | un
  | sh (f : Fl) (d : D)
  | ow (f : Fl) (d : D)
  deriving Inhabited
structure C where
  r : List Slot
  s : List Stm
  deriving Inhabited
/-- what an expression comes to: a value; a new list or dict that nothing else knows; the one that slot i owns -/
inductive R where
  | val (f : Fl) (d : D)
  | new (f : Fl) (d : D)
  | bor (i : Nat)
  deriving Inhabited
/-- an error: its class's name, what it is made with -/
structure Exn where
  cls : Str
  fl : Fl
  arg : D
  deriving Inhabited
inductive Out (α : Type) where
  | ok (a : α) (c : C)
  | exc (e : Exn) (c : C)
  | stuck
def Out.bind {α β : Type} (o : Out α) (f : α → C → Out β) : Out β :=
  match o with
  | .ok a c => f a c
  | .exc e c => .exc e c
  | .stuck => .stuck
inductive Fw where
  | nx (c : C)
  | rt (f : Fl) (d : D) (c : C)
  | exc (e : Exn) (c : C)
  | stuck

/-- a value of these data in the region f -/
def rv (f : Fl) (d : D) : R := .val (nrm d f) d
/-- what stands there now -/
def look (c : C) : R → Option (Fl × D)
  | .val f d => some (f, d)
  | .new f d => some (f, d)
  | .bor i => match c.r[i]? with
    | some (.ow f d) => some (f, d)
    | some (.sh f d) => some (f, d)
    | _ => none
/-- from now on it stays as it is -/
def frz (lv : Nat) (c : C) : R → Out (Fl × D)
  | .val f d => .ok (f, d) c
  | .new f d => .ok (f.join (.at lv), d) c
  | .bor i => match c.r[i]? with
    | some (.ow f d) => .ok (f.join (.at lv), d) { c with r := c.r.set i (.sh (f.join (.at lv)) d) }
    | some (.sh f d) => .ok (f, d) c
    | _ => .stuck
/-- an operand: a new thing is let be, an owned one stays owned -/
def opd (lv : Nat) (c : C) : R → Out R
  | .val f d => .ok (.val f d) c
  | .new f d => .ok (.val (f.join (.at lv)) d) c
  | .bor i => .ok (.bor i) c

/-! ### IL -/
inductive Op2 where
  | add | sub | mul | fdiv | mod | pow
  deriving DecidableEq
inductive Cm where
  | eq | ne | lt | le | gt | ge | inn | nin
  deriving DecidableEq
inductive Ty where
  | int | bool | list | tuple | dict | str
  deriving DecidableEq
inductive Bt where
  | abs | len | list | tuple | sum | max | min | all | any | sorted | int | repr | dict
  deriving DecidableEq
inductive Mt where
  | append | extend | pop
  deriving DecidableEq
mutual
inductive IE where
  | non | bl (b : Bool) | int (i : Int) | str (x : Str)
  | var (i : Nat)
  | op2 (o : Op2) (a b : IE)
  | neg (a : IE)
  | cmp (o : Cm) (a b : IE)
  | isN (a : IE) | notN (a : IE)
  | chn (o o' : Cm) (a b c : IE)
  | and (a b : IE) | or (a b : IE) | not (a : IE)
  | ite (c a b : IE)
  | lst (xs : List IE) | tup (xs : List IE)
  | star (a : IE)
  | ix (a i : IE)
  | slc (a : IE) (lo hi : List IE)
  | rev (a : IE)
  | call (f : Str) (as : List IE) (ks : List Str) (kas : List IE)
  | blt (b : Bt) (as : List IE)
  | isa (a : IE) (ts : List Ty)
  | mth (m : Mt) (i : Nat) (as : List IE)
  | lc (e : IE) (ts : List Nat) (one : Bool) (it : IT) (cs : List IE)
  | lrng (as : List IE)
  | never
/-- what a loop walks -/
inductive IT where
  | e (a : IE) | rng (as : List IE) | zip (a b : IE) | enm (a : IE) (st : List IE) | itm (a : IE)
end
instance : Inhabited IE := ⟨.never⟩
inductive IS where
  | expr (e : IE)
  | asg (i : Nat) (own : Bool) (e : IE)
  | asgT (ts : List Nat) (e : IE)
  | par (ts : List Nat) (es : List IE)
  | parO (ts : List Nat) (es : List (Bool × IE))
  | setIx (i : Nat) (ix e : IE)
  | ret (e : IE) | retN
  | ite (c : IE) (a b : List IS)
  | for (ts : List Nat) (one : Bool) (it : IT) (body : List IS)
  | while (c : IE) (body : List IS)
  | raise (cls : Str) (as : List IE)
  | pass
  | scope (body : List IS)
  | spoil (e : IE)
  | never
  deriving Inhabited

/-! ### operations -/
def SZ : Nat := 16777216
/-- guards of ranges and of what is repeated: over Nat, so that the kernel does not unfold big numbers -/
def rOk (i : Int) : Bool := decide (i.natAbs ≤ SZ)
def dOk (a b : Int) : Bool := decide ((b - a).toNat ≤ SZ)
theorem rOk_iff {i : Int} : rOk i = true ↔ -(SZ : Int) ≤ i ∧ i ≤ SZ := by
  unfold rOk
  rw [decide_eq_true_iff]
  constructor
  · intro h; exact ⟨by omega, by omega⟩
  · intro h; omega
theorem dOk_iff {a b : Int} : dOk a b = true ↔ b - a ≤ SZ := by
  unfold dOk
  rw [decide_eq_true_iff]
  omega
def BIG : Nat := 2 ^ 20000
def mulOk (i j : Int) : Bool := decide (i.natAbs < BIG) && decide (j.natAbs < BIG)
def divOk (j : Int) : Bool := decide (0 < j) && decide (j.natAbs < 2 ^ 9000)
def powOk (i j : Int) : Bool := decide (0 ≤ j) && decide (j ≤ 1000) && decide (i.natAbs < 2 ^ 64)
/-- the outcome, and whether it is a new list -/
def bin : Op2 → D → D → Option (Bool × D)
  | .add, .int i, .int j => some (false, .int (i + j))
  | .sub, .int i, .int j => some (false, .int (i - j))
  | .mul, .int i, .int j => if mulOk i j then some (false, .int (i * j)) else none
  | .fdiv, .int i, .int j => if divOk j then some (false, .int (i / j)) else none
  | .mod, .int i, .int j => if divOk j then some (false, .int (i % j)) else none
  | .pow, .int i, .int j => if powOk i j then some (false, .int (i ^ j.toNat)) else none
  | .add, .lst xs, .lst ys => if xs.length + ys.length ≤ SZ then some (true, .lst (xs ++ ys)) else none
  | .add, .tup xs, .tup ys => if xs.length + ys.length ≤ SZ then some (false, .tup (xs ++ ys)) else none
  | .mul, .lst xs, .int k => if decide (0 ≤ k) && rOk k && decide (xs.length * k.toNat ≤ SZ) then some (true, .lst (List.replicate k.toNat xs).flatten) else none
  | _, _, _ => none
mutual
/-- == of data without dicts -/
def eqD : D → D → Bool
  | .non, .non => true
  | .bl a, .bl b => a == b
  | .bl a, .int j => (if a then 1 else 0) == j
  | .int i, .bl b => i == (if b then 1 else 0)
  | .int i, .int j => i == j
  | .str x, .str y => x == y
  | .lst xs, .lst ys => eqDs xs ys
  | .tup xs, .tup ys => eqDs xs ys
  | _, _ => false
def eqDs : List D → List D → Bool
  | [], [] => true
  | x :: xs, y :: ys => eqD x y && eqDs xs ys
  | _, _ => false
end
mutual
/-- data that == serves, so deep at most -/
def eqOk : Nat → D → Bool
  | 0, .lst _ => false
  | 0, .tup _ => false
  | n + 1, .lst xs => eqOks n xs
  | n + 1, .tup xs => eqOks n xs
  | _, .dic _ _ => false
  | _, .stm _ => false
  | _, .obj _ => false
  | _, .str x => PyData.strOk x
  | _, .non => true
  | _, .bl _ => true
  | _, .int _ => true
def eqOks : Nat → List D → Bool
  | _, [] => true
  | n, d :: ds => eqOk n d && eqOks n ds
end
mutual
/-- lists, tuples and flat things, so deep at most -/
def spOk : Nat → D → Bool
  | 0, .lst _ => false
  | 0, .tup _ => false
  | n + 1, .lst xs => spOks n xs
  | n + 1, .tup xs => spOks n xs
  | _, .dic _ _ => false
  | _, .stm _ => false
  | _, .obj _ => false
  | _, .non => true
  | _, .bl _ => true
  | _, .int _ => true
  | _, .str _ => true
def spOks : Nat → List D → Bool
  | _, [] => true
  | n, d :: ds => spOk n d && spOks n ds
end
mutual
/-- how many things it is made of -/
def nodes : D → Nat
  | .lst xs => 1 + nodess xs
  | .tup xs => 1 + nodess xs
  | _ => 1
def nodess : List D → Nat
  | [] => 0
  | d :: ds => nodes d + nodess ds
end
/-- nothing is told of its type -/
def opq : D → Bool
  | .stm _ => true | .obj _ => true
  | _ => false
mutual
def toPy : D → PyData
  | .non => .none
  | .bl b => .bool b
  | .int i => .int i
  | .str x => .str x
  | .lst xs => .list (toPys xs)
  | .tup xs => .tuple (toPys xs)
  | .dic _ _ => .none
  | .stm _ => .none
  | .obj _ => .none
def toPys : List D → List PyData
  | [] => []
  | d :: ds => toPy d :: toPys ds
end
mutual
/-- data whose text is made, so deep at most -/
def rpOk : Nat → D → Bool
  | 0, .lst _ => false
  | 0, .tup _ => false
  | n + 1, .lst xs => rpOks n xs
  | n + 1, .tup xs => rpOks n xs
  | _, .str x => PyData.strOk x
  | _, .non => true
  | _, .bl _ => true
  | _, .int i => decide (i.natAbs < 10 ^ 12)
  | _, .dic _ _ => false
  | _, .stm _ => false
  | _, .obj _ => false
def rpOks : Nat → List D → Bool
  | _, [] => true
  | n, d :: ds => rpOk n d && rpOks n ds
end
mutual
/-- how long a text it has -/
def wgt : D → Nat
  | .int _ => 40
  | .str x => x.cps.size
  | .lst xs => wgts xs
  | .tup xs => wgts xs
  | _ => 0
def wgts : List D → Nat
  | [] => 0
  | d :: ds => wgt d + 1 + wgts ds
end
def rpFit (d : D) : Bool := rpOk 60 d && decide (wgt d ≤ 1048576)
def scalD : D → Bool
  | .non => true | .bl _ => true | .int _ => true | .str _ => true
  | _ => false
def seqOf : D → Option (List D)
  | .lst xs => some xs
  | .tup xs => some xs
  | _ => none
def intsOf : List D → Option (List Int)
  | [] => some []
  | .int i :: r => (intsOf r).map (i :: ·)
  | _ => none
def blsOf : List D → Option (List Bool)
  | [] => some []
  | .bl b :: r => (blsOf r).map (b :: ·)
  | _ => none
def cmpD : Cm → D → D → Option Bool
  | .eq, x, y => if eqOk 60 x && eqOk 60 y then some (eqD x y) else none
  | .ne, x, y => if eqOk 60 x && eqOk 60 y then some (!eqD x y) else none
  | .lt, .int i, .int j => some (decide (i < j))
  | .le, .int i, .int j => some (decide (i ≤ j))
  | .gt, .int i, .int j => some (decide (j < i))
  | .ge, .int i, .int j => some (decide (j ≤ i))
  | .inn, x, .lst ys => if eqOk 60 x && eqOk 60 (.lst ys) then some (ys.any (eqD · x)) else none
  | .inn, x, .tup ys => if scalD x && ys.all scalD then some (ys.any (eqD · x)) else none
  | .nin, x, .lst ys => if eqOk 60 x && eqOk 60 (.lst ys) then some (!ys.any (eqD · x)) else none
  | .nin, x, .tup ys => if scalD x && ys.all scalD then some (!ys.any (eqD · x)) else none
  | _, _, _ => none
/-- truth -/
def tru : D → Option Bool
  | .non => some false
  | .bl b => some b
  | .int i => some (i != 0)
  | .str x => if x.length ≤ SZ then some (x.length != 0) else none
  | .lst xs => some (!xs.isEmpty)
  | .tup xs => some (!xs.isEmpty)
  | _ => none
def isTy : Ty → D → Bool
  | .int, .int _ => true
  | .int, .bl _ => true
  | .bool, .bl _ => true
  | .str, .str _ => true
  | .list, .lst _ => true
  | .tuple, .tup _ => true
  | .dict, .dic _ _ => true
  | _, _ => false
/-- an item, from behind too -/
def atD (xs : List D) (i : Int) : Option D := atI xs i
def ixD : D → D → Option D
  | .lst xs, .int i => atD xs i
  | .tup xs, .int i => atD xs i
  | _, _ => none
def cutD (xs : List D) (lo hi : Option Int) : List D := (xs.drop (HT.sIx xs.length 0 lo)).take (HT.sIx xs.length xs.length hi - HT.sIx xs.length 0 lo)
def maxI : List Int → Int
  | [] => 0
  | x :: xs => xs.foldl (fun m y => if y > m then y else m) x
def minI : List Int → Int
  | [] => 0
  | x :: xs => xs.foldl (fun m y => if y < m then y else m) x
def insI (x : Int) : List Int → List Int
  | [] => [x]
  | y :: r => if x ≤ y then x :: y :: r else y :: insI x r
def sortI : List Int → List Int
  | [] => []
  | x :: r => insI x (sortI r)
/-- a built-in's outcome: is it a new list? -/
def bltD : Bt → List D → Option (Bool × D)
  | .abs, [.int i] => some (false, .int (if i < 0 then -i else i))
  | .len, [.lst xs] => some (false, .int xs.length)
  | .len, [.tup xs] => some (false, .int xs.length)
  | .list, [.lst xs] => some (true, .lst xs)
  | .list, [.tup xs] => some (true, .lst xs)
  | .tuple, [.lst xs] => some (false, .tup xs)
  | .tuple, [.tup xs] => some (false, .tup xs)
  | .sum, [.lst xs] => (intsOf xs).map fun ns => (false, .int ns.sum)
  | .max, [.lst xs] => match intsOf xs with
    | some (n :: ns) => some (false, .int (maxI (n :: ns)))
    | _ => none
  | .min, [.lst xs] => match intsOf xs with
    | some (n :: ns) => some (false, .int (minI (n :: ns)))
    | _ => none
  | .max, [.int i, .int j] => some (false, .int (if j > i then j else i))
  | .min, [.int i, .int j] => some (false, .int (if j < i then j else i))
  | .all, [.lst xs] => (blsOf xs).map fun bs => (false, .bl (bs.all id))
  | .any, [.lst xs] => (blsOf xs).map fun bs => (false, .bl (bs.any id))
  | .sorted, [.lst xs] => (intsOf xs).map fun ns => (true, .lst ((sortI ns).map D.int))
  | .repr, [.lst xs] => if rpFit (.lst xs) then some (false, .str (toPy (.lst xs)).shown) else none
  | .repr, [.tup xs] => if rpFit (.tup xs) then some (false, .str (toPy (.tup xs)).shown) else none
  | .int, [.int i] => some (false, .int i)
  | .int, [.bl b] => some (false, .int (if b then 1 else 0))
  | _, _ => none
/-- a method of a list: what it hands back, the list behind it -/
def mthD : Mt → List D → List D → Option (D × List D)
  | .append, xs, [d] => if xs.length < SZ then some (.non, xs ++ [d]) else none
  | .extend, xs, [.lst ys] => if xs.length + ys.length ≤ SZ then some (.non, xs ++ ys) else none
  | .pop, xs, [] => match xs[xs.length - 1]? with
    | some d => some (d, xs.dropLast)
    | none => none
  | .pop, xs, [.int k] => if k.natAbs ≤ SZ then match ixN xs.length k with
      | some j => match xs[j]? with
        | some d => some (d, xs.eraseIdx j)
        | none => none
      | none => none
    else none
  | _, _, _ => none
def isOwnL (c : C) (i : Nat) : Bool := match c.r[i]? with
  | some (.ow _ (.lst _)) => true
  | _ => false
def rngD : List D → Option (List D)
  | [.int n] => if rOk n then some ((List.range n.toNat).map fun (k : Nat) => D.int (k : Int)) else none
  | [.int a, .int b] => if rOk a && rOk b && dOk a b then some ((List.range (b - a).toNat).map fun (k : Nat) => D.int (a + (k : Int))) else none
  | [.int a, .int b, .int (-1)] => if rOk a && rOk b && dOk b a then some ((List.range (a - b).toNat).map fun (k : Nat) => D.int (a + (k : Int) * (-1))) else none
  | _ => none
def zipD : List D → List D → List D
  | x :: xs, y :: ys => .tup [x, y] :: zipD xs ys
  | _, _ => []
def enmD (k : Int) : List D → List D
  | [] => []
  | x :: xs => .tup [.int k, x] :: enmD (k + 1) xs

/-! ### evaluation -/
/-- a def's call: its arguments by the parameters, the streams -/
abbrev Caller := Str → List D → List Stm → Option (Fl × D × List Stm ⊕ Exn × List Stm)
/-- each def's parameters -/
abbrev Sig := Str → List Str
def wipeR (r : List Slot) : List Nat → List Slot
  | [] => r
  | v :: vs => (wipeR r vs).set v .un
/-- the slots is as they stand in r0 -/
def backR (r0 r : List Slot) : List Nat → List Slot
  | [] => r
  | v :: vs => match r0[v]? with
    | some (.sh f d) => (backR r0 r vs).set v (.sh f d)
    | _ => (backR r0 r vs).set v .un
/-- several targets -/
def setTs (f : Fl) : List Nat → List D → List Slot → Option (List Slot)
  | [], [], r => some r
  | t :: ts, d :: ds, r => setTs f ts ds (r.set t (.sh (nrm d f) d))
  | _, _, _ => none
/-- the loop's targets -/
def setTg (f : Fl) (ts : List Nat) (one : Bool) (d : D) (r : List Slot) : Option (List Slot) :=
  if one then setTs f ts [d] r else
    match d with
    | .tup xs => setTs f ts xs r
    | .lst xs => setTs f ts xs r
    | _ => none
/-- keywords into the parameters' order -/
def byName (ps : List Str) (as : List D) (ks : List Str) (kas : List D) : Option (List D) :=
  if permOk ps ks as.length kas.length then some (perm .non ps ks as kas) else none
/-- freeze some -/
def frzs (lv : Nat) : List R → C → Out (Fl × List D)
  | [], c => .ok (Fl.top, []) c
  | r :: rs, c => (frz lv c r).bind fun (f, d) c => (frzs lv rs c).bind fun (g, ds) c => .ok (f.join g, d :: ds) c
/-- look at some -/
def looks (c : C) : List R → Option (Fl × List D)
  | [] => some (Fl.top, [])
  | r :: rs => match look c r, looks c rs with
    | some (f, d), some (g, ds) => some (f.join g, d :: ds)
    | _, _ => none
/-- what comes back from a def: alone, or with what was passed -/
def backF (lv : Nat) (fl : Fl) (d : D) (ra rk : List R) (c : C) (k : Fl → C → Out R) : Out R :=
  if imm d || decide (1 ≤ fl.lo) then k (.at lv) c
  else (frzs lv ra c).bind fun (g, _) c => (frzs lv rk c).bind fun (h, _) c => k ((g.join h).join (.at lv)) c
/-- a loop of a comprehension -/
def lcGo (own : List Nat) (one : Fl × D → C → Out (Option (Fl × D))) (f : Fl) : List D → C → Out (Fl × List D)
  | [], c => .ok (Fl.top, []) c
  | x :: xs, c => (one (f, x) { c with r := wipeR c.r own }).bind fun o c => (lcGo own one f xs c).bind fun (g, ds) c =>
    match o with
    | some (h, d) => .ok ((nrm d h).join g, d :: ds) c
    | none => .ok (g, ds) c
/-- no error comes of it -/
def Out.noX {α : Type} (o : Out α) : Out α := match o with
  | .ok a c => .ok a c
  | _ => .stuck
/-- turns of a for -/
def forGo (one : D → C → Fw) : List D → C → Fw
  | [], c => .nx c
  | x :: xs, c => match one x c with
    | .nx c => forGo one xs c
    | o => o
/-- turns of a while -/
def whlGo (test : C → Out Bool) (body : C → Fw) : Nat → C → Fw
  | 0, _ => .stuck
  | n + 1, c => match test c with
    | .ok true c => match body c with
      | .nx c => whlGo test body n c
      | o => o
    | .ok false c => .nx c
    | .exc e c => .exc e c
    | .stuck => .stuck
/-- an operand -/
def Out.o (lv : Nat) (o : Out R) : Out R := o.bind fun r c => opd lv c r
/-- frozen -/
def Out.z (lv : Nat) (o : Out R) : Out (Fl × D) := o.bind fun r c => frz lv c r
def ofOpt {α : Type} (o : Option α) (c : C) : Out α := match o with
  | some a => .ok a c
  | none => .stuck
/-- a test -/
def Out.t (lv : Nat) (o : Out R) : Out Bool := (o.o lv).bind fun r c => match look c r with
  | some (_, d) => ofOpt (tru d) c
  | none => .stuck
/-- the outcome of an operation on data -/
def res (lv : Nat) (f : Fl) (o : Option (Bool × D)) (c : C) : Out R := match o with
  | some (true, d) => .ok (.new f d) c
  | some (false, d) => .ok (rv (f.join (.at lv)) d) c
  | none => .stuck
def fuel : Nat := 18446744073709551616

section
variable (cl : Caller) (sg : Sig)
mutual
def evE (lv : Nat) : IE → C → Out R
  | .non, c => .ok (rv Fl.top .non) c
  | .bl b, c => .ok (rv Fl.top (.bl b)) c
  | .int i, c => .ok (rv Fl.top (.int i)) c
  | .str x, c => .ok (rv Fl.top (.str x)) c
  | .var i, c => match c.r[i]? with
    | some (.sh f d) => .ok (.val f d) c
    | some (.ow _ _) => .ok (.bor i) c
    | _ => .stuck
  | .op2 o a b, c => ((evE lv a c).o lv).bind fun ra c => ((evE lv b c).o lv).bind fun rb c =>
    match look c ra, look c rb with
    | some (f, x), some (g, y) => res lv (f.join g) (bin o x y) c
    | _, _ => .stuck
  | .neg a, c => ((evE lv a c).o lv).bind fun ra c => match look c ra with
    | some (_, .int i) => .ok (rv Fl.top (.int (-i))) c
    | _ => .stuck
  | .cmp o a b, c => ((evE lv a c).o lv).bind fun ra c => ((evE lv b c).o lv).bind fun rb c =>
    match look c ra, look c rb with
    | some (_, x), some (_, y) => (ofOpt (cmpD o x y) c).bind fun k c => .ok (rv Fl.top (.bl k)) c
    | _, _ => .stuck
  | .isN a, c => ((evE lv a c).o lv).bind fun ra c => match look c ra with
    | some (_, .non) => .ok (rv Fl.top (.bl true)) c
    | some (_, _) => .ok (rv Fl.top (.bl false)) c
    | none => .stuck
  | .notN a, c => ((evE lv a c).o lv).bind fun ra c => match look c ra with
    | some (_, .non) => .ok (rv Fl.top (.bl false)) c
    | some (_, _) => .ok (rv Fl.top (.bl true)) c
    | none => .stuck
  | .chn o o' a b d, c => ((evE lv a c).o lv).bind fun ra c => ((evE lv b c).o lv).bind fun rb c =>
    match look c ra, look c rb with
    | some (_, x), some (_, y) => (ofOpt (cmpD o x y) c).bind fun k c =>
      if k then ((evE lv d c).o lv).bind fun rd c => match look c rb, look c rd with
        | some (_, y), some (_, z) => (ofOpt (cmpD o' y z) c).bind fun k c => .ok (rv Fl.top (.bl k)) c
        | _, _ => .stuck
      else .ok (rv Fl.top (.bl false)) c
    | _, _ => .stuck
  | .and a b, c => ((evE lv a c).o lv).bind fun ra c => match look c ra with
    | some (_, .bl true) => evE lv b c
    | some (_, .bl false) => .ok (rv Fl.top (.bl false)) c
    | _ => .stuck
  | .or a b, c => ((evE lv a c).o lv).bind fun ra c => match look c ra with
    | some (_, .bl false) => evE lv b c
    | some (_, .bl true) => .ok (rv Fl.top (.bl true)) c
    | _ => .stuck
  | .not a, c => ((evE lv a c).t lv).bind fun k c => .ok (rv Fl.top (.bl (!k))) c
  | .ite t a b, c => ((evE lv t c).t lv).bind fun k c => if k then evE lv a c else evE lv b c
  | .lst xs, c => (evS lv xs c).bind fun (f, ds) c => if ds.length ≤ SZ then .ok (.new f (.lst ds)) c else .stuck
  | .tup xs, c => (evF lv xs c).bind fun (f, ds) c => if ds.length ≤ SZ then .ok (rv (f.join (.at lv)) (.tup ds)) c else .stuck
  | .star _, _ => .stuck
  | .ix a i, c => ((evE lv a c).o lv).bind fun ra c => ((evE lv i c).o lv).bind fun ri c =>
    match look c ra, look c ri with
    | some (f, x), some (_, y) => (ofOpt (ixD x y) c).bind fun d c => .ok (rv f d) c
    | _, _ => .stuck
  | .slc a lo hi, c => ((evE lv a c).o lv).bind fun ra c => (evP lv lo c).bind fun l c => (evP lv hi c).bind fun h c =>
    match look c ra with
    | some (f, .lst xs) => .ok (.new f (.lst (cutD xs l h))) c
    | some (f, .tup xs) => .ok (rv (f.join (.at lv)) (.tup (cutD xs l h))) c
    | _ => .stuck
  | .rev a, c => ((evE lv a c).o lv).bind fun ra c => match look c ra with
    | some (f, .lst xs) => .ok (.new f (.lst xs.reverse)) c
    | _ => .stuck
  | .call f as ks kas, c => (evA lv as c).bind fun ra c => (evA lv kas c).bind fun rk c =>
    match looks c ra, looks c rk with
    | some (g, ds), some (h, dk) => match byName (sg f) ds ks dk with
      | some args => match cl f args c.s with
        | some (.inl (fl, d, s)) => backF lv fl d ra rk c fun f c => .ok (rv f d) { c with s := s }
        | some (.inr (e, s)) => backF lv e.fl e.arg ra rk c fun f c => .exc { e with fl := f } { c with s := s }
        | none => .stuck
      | none => .stuck
    | _, _ => .stuck
  | .blt b as, c => (evA lv as c).bind fun ra c => match looks c ra with
    | some (f, ds) => res lv f (bltD b ds) c
    | none => .stuck
  | .isa a ts, c => ((evE lv a c).o lv).bind fun ra c => match look c ra with
    | some (_, .stm _) => .stuck
    | some (_, .obj _) => .stuck
    | some (_, d) => .ok (rv Fl.top (.bl (ts.any fun t => isTy t d))) c
    | none => .stuck
  | .mth m i as, c => if isOwnL c i then (evF lv as c).bind fun (g, ds) c => match c.r[i]? with
    | some (.ow f (.lst xs)) => match mthD m xs ds with
      | some (d, ys) => .ok (rv (f.join g) d) { c with r := c.r.set i (.ow (f.join g) (.lst ys)) }
      | none => .stuck
    | _ => .stuck
    else .stuck
  | .lc e ts one it cs, c => (evIt lv it c).bind fun (f, xs) c0 => if xs.length ≤ SZ then
      (lcGo ts (fun (f, x) c => (ofOpt (setTg f ts one x c.r) c).bind fun r c =>
        (evCs lv cs { c with r := r }).bind fun k c => if k then ((evE lv e c).z lv).bind fun fd c => .ok (some fd) c else .ok none c) f xs c0).noX.bind fun (g, ds) c =>
        .ok (.new g (.lst ds)) { c with r := backR c0.r (wipeR c.r ts) ts }
    else .stuck
  | .lrng as, c => (evF lv as c).bind fun (_, ds) c => (ofOpt (rngD ds) c).bind fun xs c => .ok (.new Fl.top (.lst xs)) c
  | .never, _ => .stuck
/-- the tests of a comprehension -/
def evCs (lv : Nat) : List IE → C → Out Bool
  | [], c => .ok true c
  | e :: es, c => ((evE lv e c).t lv).bind fun k c => if k then evCs lv es c else .ok false c
/-- arguments: operands -/
def evA (lv : Nat) : List IE → C → Out (List R)
  | [], c => .ok [] c
  | e :: es, c => ((evE lv e c).o lv).bind fun r c => (evA lv es c).bind fun rs c => .ok (r :: rs) c
/-- things that are put into another: frozen -/
def evF (lv : Nat) : List IE → C → Out (Fl × List D)
  | [], c => .ok (Fl.top, []) c
  | e :: es, c => ((evE lv e c).z lv).bind fun (f, d) c => (evF lv es c).bind fun (g, ds) c => .ok ((nrm d f).join g, d :: ds) c
/-- a display's items, some with a star -/
def evS (lv : Nat) : List IE → C → Out (Fl × List D)
  | [], c => .ok (Fl.top, []) c
  | .star e :: es, c => ((evE lv e c).o lv).bind fun r c => match look c r with
    | some (f, d) => match seqOf d with
      | some xs => (evS lv es c).bind fun (g, ds) c => .ok (f.join g, xs ++ ds) c
      | none => .stuck
    | none => .stuck
  | e :: es, c => ((evE lv e c).z lv).bind fun (f, d) c => (evS lv es c).bind fun (g, ds) c => .ok ((nrm d f).join g, d :: ds) c
/-- a slice's part -/
def evP (lv : Nat) : List IE → C → Out (Option Int)
  | [], c => .ok none c
  | e :: _, c => ((evE lv e c).o lv).bind fun r c => match look c r with
    | some (_, .int i) => .ok (some i) c
    | _ => .stuck
/-- what a loop walks: the region, the items -/
def evIt (lv : Nat) : IT → C → Out (Fl × List D)
  | .rng as, c => (evF lv as c).bind fun (_, ds) c => (ofOpt (rngD ds) c).bind fun xs c => .ok (Fl.top, xs) c
  | .zip a b, c => ((evE lv a c).z lv).bind fun (f, x) c => ((evE lv b c).z lv).bind fun (g, y) c =>
    match seqOf x, seqOf y with
    | some xs, some ys => .ok (f.join g, zipD xs ys) c
    | _, _ => .stuck
  | .enm a st, c => ((evE lv a c).z lv).bind fun (f, x) c => (evP lv st c).bind fun k c =>
    if rOk (k.getD 0) then match seqOf x with
    | some xs => .ok (f, enmD (k.getD 0) xs) c
    | none => .stuck
    else .stuck
  | .e a, c => ((evE lv a c).z lv).bind fun (f, d) c => (ofOpt (seqOf d) c).bind fun xs c => .ok (f, xs) c
  | .itm _, _ => .stuck
end
end
/-! ### statements -/
def clampS (lv : Nat) : Slot → Slot
  | .un => .un
  | .sh f d => .sh (f.clamp lv) d
  | .ow f d => .ow (f.clamp lv) d
def clampC (lv : Nat) (c : C) : C := { c with r := c.r.map (clampS lv) }
def clampW (lv : Nat) : Fw → Fw
  | .nx c => .nx (clampC lv c)
  | .rt f d c => .rt (f.clamp lv) d (clampC lv c)
  | .exc e c => .exc { e with fl := e.fl.clamp lv } (clampC lv c)
  | .stuck => .stuck
/-- whether a region holds anything of the level lv -/
def Fl.hit (lv : Nat) (f : Fl) : Bool := decide (f.lo ≤ f.hi) && decide (lv ≤ f.hi)
def spoilS (lv : Nat) : Slot → Slot
  | .un => .un
  | .sh f d => if f.hit lv then .un else .sh f d
  | .ow f d => if f.hit lv then .un else .ow f d
def Out.w {α : Type} (o : Out α) (k : α → C → Fw) : Fw := match o with
  | .ok a c => k a c
  | .exc e c => .exc e c
  | .stuck => .stuck
def Fw.then (o : Fw) (k : C → Fw) : Fw := match o with
  | .nx c => k c
  | o => o
/-- a name is given a value -/
def asgS (lv : Nat) (i : Nat) (own : Bool) (r : R) (c : C) : Fw :=
  match own, r with
  | true, .new f d => .nx { c with r := c.r.set i (.ow f d) }
  | _, r => (frz lv c r).w fun (f, d) c => .nx { c with r := c.r.set i (.sh (nrm d f) d) }
/-- several targets, new things among what they are given -/
def setRs : List Nat → List R → List Slot → Option (List Slot)
  | [], [], r => some r
  | t :: ts, .val f d :: rs, r => setRs ts rs (r.set t (.sh f d))
  | t :: ts, .new f d :: rs, r => setRs ts rs (r.set t (.ow f d))
  | _, _, _ => none
section
variable (cl : Caller) (sg : Sig)
/-- values, some of them new things that stay so -/
def evN (lv : Nat) : List (Bool × IE) → C → Out (List R)
  | [], c => .ok [] c
  | (o, e) :: es, c => (evE cl sg lv e c).bind fun r c => match o, r with
    | true, .new f d => (evN lv es c).bind fun rs c => .ok (.new f d :: rs) c
    | _, r => (frz lv c r).bind fun (f, d) c => (evN lv es c).bind fun rs c => .ok (.val (nrm d f) d :: rs) c
mutual
def exS (lv : Nat) (sp : Bool) : IS → C → Fw
  | .expr e, c => (evE cl sg lv e c).w fun _ c => .nx c
  | .asg i own e, c => (evE cl sg lv e c).w fun r c => asgS lv i own r c
  | .asgT ts e, c => ((evE cl sg lv e c).z lv).w fun (f, d) c => (ofOpt ((seqOf d).bind fun xs => setTs f ts xs c.r) c).w fun r c => .nx { c with r := r }
  | .par ts es, c => (evF cl sg lv es c).w fun (f, ds) c => (ofOpt (setTs f ts ds c.r) c).w fun r c => .nx { c with r := r }
  | .parO ts es, c => (evN cl sg lv es c).w fun rs c => (ofOpt (setRs ts rs c.r) c).w fun r c => .nx { c with r := r }
  | .setIx i ix e, c => ((evE cl sg lv e c).z lv).w fun (g, d) c => if isOwnL c i then ((evE cl sg lv ix c).z lv).w fun (_, k) c =>
    match c.r[i]?, k with
    | some (.ow f (.lst xs)), .int k => match ixN xs.length k with
      | some j => .nx { c with r := c.r.set i (.ow (f.join (nrm d g)) (.lst (xs.set j d))) }
      | none => .stuck
    | _, _ => .stuck
    else .stuck
  | .ret e, c => ((evE cl sg lv e c).z lv).w fun (f, d) c => .rt (nrm d f) d c
  | .retN, c => .rt Fl.top .non c
  | .ite t a b, c => ((evE cl sg lv t c).t lv).w fun k c => if k then exL lv sp a c else exL lv sp b c
  | .for ts one it body, c => (evIt cl sg lv it c).w fun (f, xs) c =>
    forGo (fun x c => (ofOpt (setTg f ts one x c.r) c).w fun r c => exL lv false body { c with r := r }) xs c
  | .while t body, c => whlGo (fun c => (evE cl sg lv t c).t lv) (fun c => exL lv false body c) fuel c
  | .raise x as, c => (evF cl sg lv as c).w fun (f, ds) c => match ds with
    | [d] => .exc ⟨x, nrm d f, d⟩ c
    | _ => .stuck
  | .pass, c => .nx c
  | .scope body, c => clampW lv (exL (lv + 1) true body c)
  | .spoil e, c => if sp then ((evE cl sg lv e c).z lv).w fun (f, d) c =>
      if decide (lv ≤ f.lo) && spOk 20 d && decide (2 * nodes d ≤ SZ) then .nx { c with r := c.r.map (spoilS lv) } else .stuck
    else .stuck
  | .never, _ => .stuck
def exL (lv : Nat) (sp : Bool) : List IS → C → Fw
  | [], c => .nx c
  | s :: ss, c => (exS lv sp s c).then fun c => exL lv sp ss c
end
end

/-! ### streams -/
def drawGo : List Int → Int → Int → List Int × Int × Int
  | [], cur, mix => ([], cur, mix)
  | x :: xs, cur, mix => if cur = 0 then
      drawGo xs (if (x.natAbs : Int) ≥ 1000000000000000000 then (x.natAbs : Int) else 0) ((mix * 6151 + (x.natAbs : Int) + 7) % 2147483629)
    else (x :: xs, cur, mix)
def cntMax : Int := 281474976710656
/-- the next draw below many -/
def draw (t : Stm) (many : Int) : Option (Int × Stm) :=
  if 0 < many ∧ many < 1000000000 ∧ 0 ≤ t.cnt ∧ t.cnt < cntMax ∧ 0 ≤ t.mix ∧ t.mix < 2147483629 then
    match drawGo t.cells t.cur t.mix with
    | (cs, cur, mix) =>
      if cur > 0 then some (cur % many, ⟨cs, cur / many, t.cnt + 1, mix⟩)
      else some (((((mix + 8191 * (t.cnt + 1) + 50021) ^ 5) % 2147483587 * 40009 + 20011 * (t.cnt + 1) + 31) ^ 3) % 1000000009 % many, ⟨cs, cur, t.cnt + 1, mix⟩)
  else none
def nStream : Str := "_law_stream"
def nDraw : Str := "_law_draw"
def nSpoilt : Str := "_law_spoilt"

/-! ### defs -/
structure Fd where
  ps : List Str
  N : List Str
  body : List IS
  deriving Inhabited
abbrev Pg := List (Str × Fd)
def sgOf (P : Pg) : Sig := fun f => match P.lookup f with
  | some fd => fd.ps
  | none => if f = nDraw then ["stream", "many"] else if f = nStream then ["script"] else []
def prim (f : Str) (as : List D) (s : List Stm) : Option (Fl × D × List Stm ⊕ Exn × List Stm) :=
  if f = nDraw then match as with
    | [.stm g, .int many] => match s[g]? with
      | some t => (draw t many).map fun (i, t') => .inl (Fl.top, .int i, s.set g t')
      | none => none
    | _ => none
  else if f = nStream then match as with
    | [.lst xs] => (intsOf xs).map fun ns => .inl (Fl.top, .stm s.length, s ++ [⟨ns, 0, 0, 19⟩])
    | _ => none
  else none
def startR (fd : Fd) (as : List D) : List Slot := as.map (fun d => .sh (nrm d ⟨0, 0⟩) d) ++ List.replicate (fd.N.length - as.length) .un
def endW : Fw → Option (Fl × D × List Stm ⊕ Exn × List Stm)
  | .nx c => some (.inl (Fl.top, .non, c.s))
  | .rt f d c => some (.inl (f, d, c.s))
  | .exc e c => some (.inr (e, c.s))
  | .stuck => none
def callF (P : Pg) : Nat → Caller
  | 0, _, _, _ => none
  | n + 1, f, as, s => match P.lookup f with
    | some fd => if as.length = fd.ps.length then endW (exL (callF P n) (sgOf P) 1 false fd.body ⟨startR fd as, s⟩) else none
    | none => prim f as s
end Sd

/-! Sd1: from the program's text to IL. -/
namespace Sd
open PySem PySem.Spec PyProof.Rows L2

/-- what is known of a def beside its text: its names, the ones whose lists change, the rows where a region begins -/
structure Ann where
  N : List Str
  M : List Str
  sc : List Nat
  deriving Inhabited
def isLoc (sc : Scope) (x : Str) : Bool := !decide (x = "__debug__") && !decide (x = "__classdict__") && match sc.names.lookup x with
  | some .local => true | some .cell => true | some .free => true | _ => false
def isGlb (sc : Scope) (x : Str) : Bool := match sc.names.lookup x with
  | some .globalImplicit => true | _ => false
def isSto (sc : Scope) (x : Str) : Bool := match sc.names.lookup x with
  | some .local => true | some .cell => true | _ => false
def slotOf (N : List Str) (x : Str) : Option Nat := N.findIdx? (fun y => decide (y = x))
def op2Of : Operator → Option Op2
  | .Add => some .add | .Sub => some .sub | .Mult => some .mul | .FloorDiv => some .fdiv | .Mod => some .mod | .Pow => some .pow | _ => none
def cmOf : CmpOp → Option Cm
  | .Eq => some .eq | .NotEq => some .ne | .Lt => some .lt | .LtE => some .le | .Gt => some .gt | .GtE => some .ge | .In => some .inn | .NotIn => some .nin | _ => none
def btOf (x : Str) (n : Nat) : Option Bt :=
  if n = 1 then
    if x = "abs" then some .abs else if x = "len" then some .len else if x = "list" then some .list else if x = "tuple" then some .tuple else if x = "sum" then some .sum
    else if x = "max" then some .max else if x = "min" then some .min else if x = "all" then some .all else if x = "any" then some .any else if x = "sorted" then some .sorted
    else if x = "int" then some .int else if x = "repr" then some .repr else if x = "dict" then some .dict else none
  else if n = 2 then if x = "max" then some .max else if x = "min" then some .min else none
  else none
def tyOf (x : Str) : Option Ty :=
  if x = "int" then some .int else if x = "bool" then some .bool else if x = "list" then some .list else if x = "tuple" then some .tuple
  else if x = "dict" then some .dict else if x = "str" then some .str else none
def tyN (sc : Scope) : Expr → Option Ty
  | .Name x _ => if isGlb sc x then tyOf x else none
  | _ => none
def tysOf (sc : Scope) : Expr → Option (List Ty)
  | .Tuple es _ _ => (es.mapM (tyN sc)).bind fun ts => if ts.length ≤ 9 then some ts else none
  | e => (tyN sc e).map fun t => [t]
def isStar : Expr → Bool
  | .Starred .. => true
  | _ => false
def isSlc : Expr → Bool
  | .Slice .. => true
  | _ => false
def isSet : Expr → Bool
  | .Set .. => true
  | _ => false
def nameOf : Expr → Option Str
  | .Name x _ => some x
  | _ => none
def tgN (sc : Scope) (N : List Str) : Expr → Option Nat
  | .Name x _ => if isSto sc x then slotOf N x else none
  | _ => none
/-- names as targets: their slots -/
def tgOf (sc : Scope) (N : List Str) : Expr → Option (List Nat × Bool)
  | .Name x _ => if isSto sc x then (slotOf N x).map fun i => ([i], true) else none
  | .Tuple es _ _ => (es.mapM (tgN sc N)).map fun is => (is, false)
  | _ => none
def kwNames (ks : List Keyword) : Option (List Str) := ks.mapM fun k => k.arg
def strOf : Expr → Option Str
  | .Constant (.str x) _ _ => some x
  | _ => none
/-- are the names of a pair (of three) stored from the right? -/
def swapN (sc : Scope) (ts vs : List Expr) : Option (Option (List Str)) :=
  if !(ts.length == 2 || ts.length == 3) || vs.length != ts.length then some none
  else if vs.any isStar then some none
  else
    let line := (ts.head?.map (·.pos.line)).getD 0
    let names := ts.filterMap fun
      | .Name id pos => if sc.names.lookup id == some .local && pos.line == line then some id else none
      | _ => none
    if names.length != ts.length || names.eraseDups.length != names.length then some none
    else if vs.all (foldedForSure 8) then some none
    else if vs.all (constantsAlone 8) then none
    else some (some names)
def elts : Expr → List Expr
  | .Tuple es _ _ => es
  | _ => []
def isComp : Expr → Bool
  | .ListComp .. => true | .SetComp .. => true | .DictComp .. => true
  | _ => false
def locN (sc : Scope) (x : Str) : Bool := match sc.names.lookup x with
  | some .local => true
  | _ => false
/-- a, b = x, y: served? -/
def parOk (sc : Scope) (N : List Str) (ts vs : List Expr) : Bool := match swapN sc ts vs with
  | some none => decide (ts.length ≤ 9)
  | some (some ns) => (match ts with
    | [.Name x _, .Name y _] => decide (ns = [x, y]) && locN sc x && locN sc y && !decide (x = y)
    | [.Name x _, .Name y _, .Name z _] => decide (ns = [x, y, z]) && locN sc x && locN sc y && locN sc z && !decide (x = y) && !decide (x = z) && !decide (y = z)
    | _ => false) && vs.length == ts.length
  | none => false
/-- are they stored from the right? -/
def swO (sc : Scope) (ts vs : List Expr) : Bool := match swapN sc ts vs with
  | some (some _) => true
  | _ => false
/-- which of the targets are names whose lists change -/
def ownFl (M : List Str) (ts : List Expr) : List Bool := ts.map fun
  | .Name x _ => decide (x ∈ M)
  | _ => false
/-- the positions of a comprehension's own names, as the block's own -/
def ownOf (N : List Str) (ts : List Nat) : List (Str × Nat) := ts.map fun i => (N.getD i "", i)

section
variable (us : List Str) (a : Ann)
mutual
def cE : Nat → Scope → Expr → IE
  | 0, _, _ => .never
  | n + 1, sc, e => match e with
    | .Constant c _ _ => match c with
      | .none => .non
      | .bool b => .bl b
      | .int i => .int i
      | .str x => .str x
      | _ => .never
    | .Name x _ => if isLoc sc x then match slotOf a.N x with
        | some i => .var i
        | none => .never
      else .never
    | .BinOp l op r _ => match op2Of op with
      | some o => .op2 o (cE n sc l) (cE n sc r)
      | none => .never
    | .UnaryOp .USub x _ => .neg (cE n sc x)
    | .UnaryOp .Not x _ => .not (cE n sc x)
    | .BoolOp op es pos => match op, es with
      | _, [x] => cE n sc x
      | .And, x :: y :: r => .and (cE n sc x) (cE n sc (.BoolOp .And (y :: r) pos))
      | .Or, x :: y :: r => .or (cE n sc x) (cE n sc (.BoolOp .Or (y :: r) pos))
      | _, _ => .never
    | .Compare l [op] [r] _ => match op, r with
      | .Is, .Constant .none _ _ => .isN (cE n sc l)
      | .IsNot, .Constant .none _ _ => .notN (cE n sc l)
      | op, r => match cmOf op with
        | some o => if behindInMarks op r then .never else .cmp o (cE n sc l) (cE n sc r)
        | none => .never
    | .Compare l [op, op'] [m, r] _ => match cmOf op, cmOf op' with
      | some o, some o' => if lastMarks [op, op'] [m, r] then .never else .chn o o' (cE n sc l) (cE n sc m) (cE n sc r)
      | _, _ => .never
    | .IfExp t x y _ => .ite (cE n sc t) (cE n sc x) (cE n sc y)
    | .List es _ => .lst (es.map (cX n sc))
    | .Tuple es _ _ => if es.any isStar then .never else .tup (es.map (cE n sc))
    | .Subscript x s _ => match s with
      | .Slice none none (some (.UnaryOp .USub (.Constant (.int 1) _ _) _)) _ => .rev (cE n sc x)
      | .Slice lo hi none _ => .slc (cE n sc x) (cO n sc lo) (cO n sc hi)
      | .Slice .. => .never
      | i => .ix (cE n sc x) (cE n sc i)
    | .Call (.Name f _) as ks _ =>
      if isGlb sc f then
        if as.any isStar then .never else
        if f ∈ us then match kwNames ks with
          | some kn => .call f (as.map (cE n sc)) kn (ks.map fun k => cE n sc k.value)
          | none => .never
        else if ks.isEmpty then
          if f = "isinstance" then match as with
            | [x, t] => match tysOf sc t with
              | some ts => .isa (cE n sc x) ts
              | none => .never
            | _ => .never
          else match decide (f = "list"), as with
            | true, [.Call (.Name g _) bs [] _] => if isGlb sc g && decide (g = "range") && !bs.any isStar && (bs.length == 1 || bs.length == 2) then .lrng (bs.map (cE n sc)) else .blt .list (as.map (cE n sc))
            | _, _ => match btOf f as.length with
              | some b => .blt b (as.map (cE n sc))
              | none => .never
        else .never
      else .never
    | .Call (.Attribute (.Name x _) m ap) as ks cp =>
      if isSto sc x && isLoc sc x && decide (x ∈ a.M) && ks.isEmpty && !as.any isStar && (ap.endLine == cp.line) then match slotOf a.N x with
        | some i =>
          if m = "append" && as.length == 1 then .mth .append i (as.map (cE n sc))
          else if m = "extend" && as.length == 1 then .mth .extend i (as.map (cE n sc))
          else if m = "pop" && decide (as.length ≤ 1) then .mth .pop i (as.map (cE n sc))
          else .never
        | none => .never
      else .never
    | .ListComp e [⟨tg, it, ifs, 0⟩] bs _ =>
      let sc' := relS bs sc
      match tgOf bs a.N tg with
      | some (ts, one) => if blkC a.N sc bs (ownOf a.N ts) && decide (ifs.length ≤ 1) && !isSet it then
          .lc (cE n sc' e) ts one (cI n sc (!one) it) (ifs.map (cE n sc')) else .never
      | none => .never
    | _ => .never
/-- a display's item -/
def cX : Nat → Scope → Expr → IE
  | 0, _, _ => .never
  | n + 1, sc, e => match e with
    | .Starred x _ => .star (cE n sc x)
    | e => cE n sc e
/-- a slice's part -/
def cO : Nat → Scope → Option Expr → List IE
  | 0, _, _ => [.never]
  | n + 1, sc, o => match o with
    | none => []
    | some e => [cE n sc e]
/-- what a loop walks; tup: its target is a tuple -/
def cI : Nat → Scope → Bool → Expr → IT
  | 0, _, _, _ => .e .never
  | n + 1, sc, tup, e => match e with
    | .Call (.Name f p) as ks pos =>
      if isGlb sc f && ks.isEmpty && !as.any isStar && !decide (f ∈ us) then
        if f = "range" then if as.length = 0 ∨ 3 < as.length then .e .never else .rng (as.map (cE n sc))
        else if f = "zip" then match as with
          | [x, y] => if tup then .zip (cE n sc x) (cE n sc y) else .e .never
          | _ => .e .never
        else if f = "enumerate" then match as with
          | [x] => if tup then .enm (cE n sc x) [] else .e .never
          | [x, k] => if tup then .enm (cE n sc x) [cE n sc k] else .e .never
          | _ => .e .never
        else .e (cE n sc e)
      else .e (cE n sc e)
    | e => .e (cE n sc e)
end
/-- what is spoilt by a row, if by it anything is -/
def spOf (sc : Scope) : Expr → Option Expr
  | .Call (.Name f _) [x] [] _ => if f = "_law_spoilt" ∧ isGlb sc f = true ∧ isStar x = false then some x else none
  | _ => none
mutual
def cS : Nat → Scope → Stmt → IS
  | 0, _, _ => .never
  | n + 1, sc, s => match s with
    | .Expr e _ => match strOf e with
      | some _ => .pass
      | none => match spOf sc e with
        | some x => .spoil (cE us a n sc x)
        | none => if isComp e then .never else .expr (cE us a n sc e)
    | .Assign [tg] v _ => match tg with
      | .Name x _ => if isSto sc x then match slotOf a.N x with
          | some i => .asg i (decide (x ∈ a.M)) (cE us a n sc v)
          | none => .never
        else .never
      | .Tuple .. => match tgOf sc a.N tg, v with
        | some (ts, _), .Tuple vs _ _ => if vs.any isStar || !parOk sc a.N (elts tg) vs then .never else if swO sc (elts tg) vs && (ownFl a.M (elts tg)).any id then .parO ts ((ownFl a.M (elts tg)).zip (vs.map (cE us a n sc))) else .par ts (vs.map (cE us a n sc))
        | some (ts, _), v => .asgT ts (cE us a n sc v)
        | none, _ => .never
      | .Subscript (.Name x _) i _ => if isSto sc x && isLoc sc x && decide (x ∈ a.M) && !isSlc i then match slotOf a.N x with
          | some k => .setIx k (cE us a n sc i) (cE us a n sc v)
          | none => .never
        else .never
      | _ => .never
    | .Return none _ => .retN
    | .Return (some e) _ => .ret (cE us a n sc e)
    | .If t b o _ => .ite (cE us a n sc t) (cL n sc b) (cL n sc o)
    | .For tg it b [] _ => match tgOf sc a.N tg with
      | some (ts, one) => if isSet it then .never else .for ts one (cI us a n sc (!one) it) (cL n sc b)
      | none => .never
    | .While t b [] _ => .while (cE us a n sc t) (cL n sc b)
    | .Pass _ => .pass
    | _ => .never
def cL : Nat → Scope → List Stmt → List IS
  | 0, _, _ => [.never]
  | n + 1, sc, ss => match ss with
    | [] => []
    | s :: r => if s.pos.line ∈ a.sc then [.scope (cS n sc s :: cL n sc r)] else cS n sc s :: cL n sc r
end
end
/-- a def of the top: its parameters, its body in IL -/
def cFd (us : List Str) (a : Ann) : Stmt → Option (Str × Fd)
  | .FunctionDef f as body _ _ _ sc _ _ _ => some (f, ⟨as.args.map (·.arg), a.N, cL us a 200 sc body⟩)
  | _ => none
end Sd

/-! Sd2: how plain data lie in the heap; what is known of a state. -/
namespace Sd
open PySem PySem.Spec PyProof.Rows L2

/-! ### heaps -/
def Sub (G H : Hp) : Prop := ∀ a o, G a = some o → H a = some o
theorem Sub.refl (G : Hp) : Sub G G := fun _ _ h => h
theorem Sub.trans {G H I : Hp} (a : Sub G H) (b : Sub H I) : Sub G I := fun x o h => b x o (a x o h)
theorem Sub.none {G H : Hp} (s : Sub G H) {a : Addr} (h : H a = none) : G a = none := by
  cases e : G a with
  | none => rfl
  | some o => rw [s a o e] at h; cases h
theorem Sub.upd_new {G H : Hp} {p : Addr} {o : HO} (s : Sub G H) (h : G p = Option.none) : Sub G (upd H p o) := fun a u e => by
  rw [upd_ne (ne_of_none e h)]; exact s a u e
theorem Sub.upd2 {G H : Hp} {p : Addr} {o : HO} (s : Sub G H) : Sub (upd G p o) (upd H p o) := fun a u e => by
  by_cases h : a = p
  · subst h; rw [upd_same] at e ⊢; exact e
  · rw [upd_ne h] at e ⊢; exact s a u e
theorem Sub.upd_in {G H : Hp} {p : Addr} {o : HO} (s : Sub G H) (h : H p = some o) : Sub (upd G p o) H := fun a u e => by
  by_cases hp : a = p
  · subst hp; rw [upd_same] at e; rw [← e]; exact h
  · rw [upd_ne hp] at e; exact s a u e
theorem Sub.to_upd {G : Hp} {p : Addr} {o : HO} (h : G p = Option.none) : Sub G (upd G p o) := (Sub.refl G).upd_new h

/-! ### data in a heap -/
mutual
def Rp (sx : List (Addr × Addr)) (G : Hp) : D → V → Prop
  | .non, v => v = .non
  | .bl b, v => v = .bl b
  | .int i, v => v = .int i
  | .str x, v => v = .str x
  | .lst xs, v => ∃ a vs, v = .ref a ∧ G a = some (.lst vs) ∧ Rps sx G xs vs
  | .tup xs, v => ∃ a vs, v = .ref a ∧ G a = some (.tup vs) ∧ Rps sx G xs vs
  | .dic _ _, _ => False
  | .stm g, v => ∃ p, sx[g]? = some p ∧ v = .ref p.1
  | .obj a, v => v = .ref a
def Rps (sx : List (Addr × Addr)) (G : Hp) : List D → List V → Prop
  | [], vs => vs = []
  | d :: ds, vs => ∃ v r, vs = v :: r ∧ Rp sx G d v ∧ Rps sx G ds r
end
theorem Rps.nil {sx : List (Addr × Addr)} {G : Hp} : Rps sx G [] [] := by simp [Rps]
theorem Rps.cons {sx : List (Addr × Addr)} {G : Hp} {d : D} {ds : List D} {v : V} {vs : List V} (a : Rp sx G d v) (b : Rps sx G ds vs) : Rps sx G (d :: ds) (v :: vs) := by
  simp only [Rps]; exact ⟨v, vs, rfl, a, b⟩
theorem Rps.inv {sx : List (Addr × Addr)} {G : Hp} {d : D} {ds : List D} {vs : List V} (h : Rps sx G (d :: ds) vs) : ∃ v r, vs = v :: r ∧ Rp sx G d v ∧ Rps sx G ds r := by
  simpa only [Rps] using h
def Pre {α : Type} (a b : List α) : Prop := ∃ r, b = a ++ r
theorem Pre.refl {α : Type} (a : List α) : Pre a a := ⟨[], by simp⟩
theorem Pre.trans {α : Type} {a b c : List α} (h : Pre a b) (k : Pre b c) : Pre a c := by
  obtain ⟨r, rfl⟩ := h; obtain ⟨s, rfl⟩ := k; exact ⟨r ++ s, by simp⟩
theorem Pre.get {α : Type} {a b : List α} {i : Nat} {x : α} (h : Pre a b) (e : a[i]? = some x) : b[i]? = some x := by
  obtain ⟨r, rfl⟩ := h
  rw [List.getElem?_append_left (List.getElem?_eq_some_iff.mp e).1]; exact e
mutual
theorem Rp.mono {sx sx' : List (Addr × Addr)} {G G' : Hp} (hs : Pre sx sx') (s : Sub G G') : ∀ (d : D) (v : V), Rp sx G d v → Rp sx' G' d v
  | .non, v, h => by simpa only [Rp] using h
  | .bl b, v, h => by simpa only [Rp] using h
  | .int i, v, h => by simpa only [Rp] using h
  | .str x, v, h => by simpa only [Rp] using h
  | .lst xs, v, h => by
    simp only [Rp] at h ⊢
    obtain ⟨a, vs, e, h1, h2⟩ := h
    exact ⟨a, vs, e, s _ _ h1, Rps.mono hs s xs vs h2⟩
  | .tup xs, v, h => by
    simp only [Rp] at h ⊢
    obtain ⟨a, vs, e, h1, h2⟩ := h
    exact ⟨a, vs, e, s _ _ h1, Rps.mono hs s xs vs h2⟩
  | .dic ks ds, v, h => by simp only [Rp] at h
  | .stm g, v, h => by
    simp only [Rp] at h ⊢
    obtain ⟨p, h1, h2⟩ := h
    exact ⟨p, hs.get h1, h2⟩
  | .obj a, v, h => by simpa only [Rp] using h
theorem Rps.mono {sx sx' : List (Addr × Addr)} {G G' : Hp} (hs : Pre sx sx') (s : Sub G G') : ∀ (ds : List D) (vs : List V), Rps sx G ds vs → Rps sx' G' ds vs
  | [], vs, h => by simpa only [Rps] using h
  | d :: ds, vs, h => by
    obtain ⟨v, r, rfl, h1, h2⟩ := h.inv
    exact .cons (Rp.mono hs s d v h1) (Rps.mono hs s ds r h2)
end
theorem Rps.length {sx : List (Addr × Addr)} {G : Hp} : ∀ {ds : List D} {vs : List V}, Rps sx G ds vs → vs.length = ds.length
  | [], _, h => by simp only [Rps] at h; subst h; rfl
  | d :: ds, _, h => by
    obtain ⟨v, r, rfl, _, h2⟩ := h.inv
    simp [h2.length]
theorem Rps.get {sx : List (Addr × Addr)} {G : Hp} : ∀ {ds : List D} {vs : List V} {i : Nat} {d : D}, Rps sx G ds vs → ds[i]? = some d → ∃ v, vs[i]? = some v ∧ Rp sx G d v
  | [], _, _, _, _, e => by simp at e
  | _ :: ds, _, 0, _, h, e => by
    obtain ⟨v, r, rfl, h1, _⟩ := h.inv
    simp at e; subst e; exact ⟨v, rfl, h1⟩
  | _ :: ds, _, i + 1, d, h, e => by
    obtain ⟨v, r, rfl, _, h2⟩ := h.inv
    obtain ⟨w, h3, h4⟩ := Rps.get (i := i) h2 (by simpa using e)
    exact ⟨w, by simpa using h3, h4⟩
theorem Rps.get' {sx : List (Addr × Addr)} {G : Hp} {ds : List D} {vs : List V} {i : Nat} {v : V} (h : Rps sx G ds vs) (e : vs[i]? = some v) : ∃ d, ds[i]? = some d ∧ Rp sx G d v := by
  have hl := h.length
  have hi : i < ds.length := by rw [← hl]; exact (List.getElem?_eq_some_iff.mp e).1
  obtain ⟨w, h1, h2⟩ := h.get (List.getElem?_eq_getElem hi)
  rw [e] at h1; cases h1
  exact ⟨_, List.getElem?_eq_getElem hi, h2⟩
theorem Rps.append {sx : List (Addr × Addr)} {G : Hp} : ∀ {ds es : List D} {vs ws : List V}, Rps sx G ds vs → Rps sx G es ws → Rps sx G (ds ++ es) (vs ++ ws)
  | [], _, _, _, h, k => by simp only [Rps] at h; subst h; simpa using k
  | d :: ds, _, _, _, h, k => by
    obtain ⟨v, r, rfl, h1, h2⟩ := h.inv
    exact .cons h1 (h2.append k)
theorem Rps.drop {sx : List (Addr × Addr)} {G : Hp} : ∀ (n : Nat) {ds : List D} {vs : List V}, Rps sx G ds vs → Rps sx G (ds.drop n) (vs.drop n)
  | 0, _, _, h => h
  | n + 1, [], _, h => by simp only [Rps] at h; subst h; simp [Rps.nil]
  | n + 1, d :: ds, _, h => by
    obtain ⟨v, r, rfl, _, h2⟩ := h.inv
    simpa using Rps.drop n h2
theorem Rps.take {sx : List (Addr × Addr)} {G : Hp} : ∀ (n : Nat) {ds : List D} {vs : List V}, Rps sx G ds vs → Rps sx G (ds.take n) (vs.take n)
  | 0, _, _, _ => by simp [Rps.nil]
  | n + 1, [], _, h => by simp only [Rps] at h; subst h; simp [Rps.nil]
  | n + 1, d :: ds, _, h => by
    obtain ⟨v, r, rfl, h1, h2⟩ := h.inv
    simpa using Rps.cons h1 (Rps.take n h2)
theorem Rps.set {sx : List (Addr × Addr)} {G : Hp} {d : D} {v : V} (r : Rp sx G d v) : ∀ (i : Nat) {ds : List D} {vs : List V}, Rps sx G ds vs → Rps sx G (ds.set i d) (vs.set i v)
  | _, [], _, h => by simp only [Rps] at h; subst h; simp [Rps.nil]
  | 0, e :: ds, _, h => by
    obtain ⟨w, q, rfl, _, h2⟩ := h.inv
    simpa using Rps.cons r h2
  | i + 1, e :: ds, _, h => by
    obtain ⟨w, q, rfl, h1, h2⟩ := h.inv
    simpa using Rps.cons h1 (Rps.set r i h2)
theorem Rps.eraseIdx {sx : List (Addr × Addr)} {G : Hp} : ∀ (i : Nat) {ds : List D} {vs : List V}, Rps sx G ds vs → Rps sx G (ds.eraseIdx i) (vs.eraseIdx i)
  | _, [], _, h => by simp only [Rps] at h; subst h; simp [Rps.nil]
  | 0, e :: ds, _, h => by
    obtain ⟨w, q, rfl, _, h2⟩ := h.inv
    simpa using h2
  | i + 1, e :: ds, _, h => by
    obtain ⟨w, q, rfl, h1, h2⟩ := h.inv
    simpa using Rps.cons h1 (Rps.eraseIdx i h2)
theorem Rps.reverse {sx : List (Addr × Addr)} {G : Hp} : ∀ {ds : List D} {vs : List V}, Rps sx G ds vs → Rps sx G ds.reverse vs.reverse
  | [], _, h => by simp only [Rps] at h; subst h; simp [Rps.nil]
  | e :: ds, _, h => by
    obtain ⟨w, q, rfl, h1, h2⟩ := h.inv
    simpa using h2.reverse.append (.cons h1 .nil)
theorem Rps.rep {sx : List (Addr × Addr)} {G : Hp} {ds : List D} {vs : List V} (h : Rps sx G ds vs) : ∀ k : Nat, Rps sx G (List.replicate k ds).flatten (List.replicate k vs).flatten
  | 0 => by simp [Rps.nil]
  | k + 1 => by simpa [List.replicate_succ] using h.append (Rps.rep h k)
theorem Rps.ints {sx : List (Addr × Addr)} {G : Hp} : ∀ (ns : List Int), Rps sx G (ns.map D.int) (ns.map V.int)
  | [] => by simp [Rps.nil]
  | n :: ns => .cons (by simp [Rp]) (Rps.ints ns)
theorem intsOf_inv : ∀ {ds : List D} {ns : List Int}, intsOf ds = some ns → ds = ns.map D.int
  | [], ns, h => by simp [intsOf] at h; subst h; rfl
  | .int i :: r, ns, h => by
    simp only [intsOf, Option.map_eq_some_iff] at h
    obtain ⟨m, hm, rfl⟩ := h
    rw [intsOf_inv hm]; rfl
  | .non :: r, ns, h => by simp [intsOf] at h
  | .bl b :: r, ns, h => by simp [intsOf] at h
  | .str b :: r, ns, h => by simp [intsOf] at h
  | .lst b :: r, ns, h => by simp [intsOf] at h
  | .tup b :: r, ns, h => by simp [intsOf] at h
  | .dic b e :: r, ns, h => by simp [intsOf] at h
  | .stm b :: r, ns, h => by simp [intsOf] at h
  | .obj b :: r, ns, h => by simp [intsOf] at h
theorem blsOf_inv : ∀ {ds : List D} {ns : List Bool}, blsOf ds = some ns → ds = ns.map D.bl
  | [], ns, h => by simp [blsOf] at h; subst h; rfl
  | .bl i :: r, ns, h => by
    simp only [blsOf, Option.map_eq_some_iff] at h
    obtain ⟨m, hm, rfl⟩ := h
    rw [blsOf_inv hm]; rfl
  | .non :: r, ns, h => by simp [blsOf] at h
  | .int b :: r, ns, h => by simp [blsOf] at h
  | .str b :: r, ns, h => by simp [blsOf] at h
  | .lst b :: r, ns, h => by simp [blsOf] at h
  | .tup b :: r, ns, h => by simp [blsOf] at h
  | .dic b e :: r, ns, h => by simp [blsOf] at h
  | .stm b :: r, ns, h => by simp [blsOf] at h
  | .obj b :: r, ns, h => by simp [blsOf] at h
theorem Rps.ints_inv {sx : List (Addr × Addr)} {G : Hp} : ∀ {ns : List Int} {vs : List V}, Rps sx G (ns.map D.int) vs → vs = ns.map V.int
  | [], _, h => by simpa only [List.map_nil, Rps] using h
  | n :: ns, _, h => by
    obtain ⟨v, r, rfl, h1, h2⟩ := Rps.inv h
    simp only [Rp] at h1
    rw [h1, Rps.ints_inv h2]; rfl
theorem Rps.bls_inv {sx : List (Addr × Addr)} {G : Hp} : ∀ {ns : List Bool} {vs : List V}, Rps sx G (ns.map D.bl) vs → vs = ns.map V.bl
  | [], _, h => by simpa only [List.map_nil, Rps] using h
  | n :: ns, _, h => by
    obtain ⟨v, r, rfl, h1, h2⟩ := Rps.inv h
    simp only [Rp] at h1
    rw [h1, Rps.bls_inv h2]; rfl

/-! ### regions -/
def regm (G : Nat → Hp) (lv : Nat) (f : Fl) : Hp := fun a => match G lv a with
  | some (.tup xs) => some (.tup xs)
  | some o => if (f.lo == 0 || (G (f.lo - 1) a).isNone) && (G f.hi a).isSome then some o else none
  | none => none
/-- the regions: growing, the last one stays -/
structure Gok (G : Nat → Hp) (lv : Nat) : Prop where
  mono : ∀ m n, m ≤ n → Sub (G m) (G n)
  flat : ∀ n, lv ≤ n → G n = G lv
theorem regm_sub {G : Nat → Hp} {lv : Nat} {f : Fl} : Sub (regm G lv f) (G lv) := fun a o h => by
  unfold regm at h
  split at h
  · rename_i e; rw [e]; exact h
  · rename_i e
    split at h
    · rw [e]; exact h
    · cases h
  · cases h
theorem regm_tup {G : Nat → Hp} {lv : Nat} {f : Fl} {a : Addr} {xs : List V} (h : G lv a = some (.tup xs)) : regm G lv f a = some (.tup xs) := by
  unfold regm; rw [h]
theorem regm_in {G : Nat → Hp} {lv : Nat} {f : Fl} {a : Addr} {o : HO} (h : G lv a = some o) (h1 : f.lo = 0 ∨ G (f.lo - 1) a = none) (h2 : G f.hi a ≠ none) : regm G lv f a = some o := by
  unfold regm
  rw [h]
  have c : ((f.lo == 0 || (G (f.lo - 1) a).isNone) && (G f.hi a).isSome) = true := by
    rcases h1 with h1 | h1
    · simp [h1, Option.isSome_iff_ne_none, h2]
    · simp [h1, Option.isSome_iff_ne_none, h2]
  cases o <;> simp [c]
/-- .. and what is in it -/
theorem regm_out {G : Nat → Hp} {lv : Nat} {f : Fl} {a : Addr} {o : HO} (h : regm G lv f a = some o) : G lv a = some o ∧ ((∃ xs, o = .tup xs) ∨ ((f.lo = 0 ∨ G (f.lo - 1) a = none) ∧ G f.hi a ≠ none)) := by
  refine ⟨regm_sub a o h, ?_⟩
  unfold regm at h
  split at h
  · rename_i e; cases h; exact .inl ⟨_, rfl⟩
  · split at h
    · rename_i c
      simp only [Bool.and_eq_true, Bool.or_eq_true, beq_iff_eq, Option.isNone_iff_eq_none, Option.isSome_iff_ne_none] at c
      exact .inr c
    · cases h
  · cases h
/-- the regions G' where those of G have grown at the last one -/
structure Gext (G : Nat → Hp) (lv : Nat) (G' : Nat → Hp) : Prop where
  low : ∀ n, n < lv → G' n = G n
  up : Sub (G lv) (G' lv)
theorem Gext.refl {G : Nat → Hp} {lv : Nat} : Gext G lv G := ⟨fun _ _ => rfl, Sub.refl _⟩
theorem Gext.trans {G G' G'' : Nat → Hp} {lv : Nat} (a : Gext G lv G') (b : Gext G' lv G'') : Gext G lv G'' := ⟨fun n h => (b.low n h).trans (a.low n h), a.up.trans b.up⟩
theorem regm_mono {G G' : Nat → Hp} {lv : Nat} {f : Fl} (k : Gok G lv) (k' : Gok G' lv) (e : Gext G lv G') : Sub (regm G lv f) (regm G' lv f) := fun a o h => by
  obtain ⟨h0, h1⟩ := regm_out h
  have h0' := e.up a o h0
  rcases h1 with ⟨xs, rfl⟩ | ⟨h1, h2⟩
  · exact regm_tup h0'
  · refine regm_in h0' ?_ ?_
    · rcases h1 with h1 | h1
      · exact .inl h1
      · by_cases hl : f.lo - 1 < lv
        · rw [e.low _ hl]; exact .inr h1
        · rw [k.flat _ (by omega), h0] at h1; cases h1
    · by_cases hl : f.hi < lv
      · rw [e.low _ hl]; exact h2
      · rw [k'.flat _ (by omega), h0']; exact fun z => by cases z
/-- a greater region -/
theorem regm_join_l {G : Nat → Hp} {lv : Nat} {f g : Fl} (k : Gok G lv) : Sub (regm G lv f) (regm G lv (f.join g)) := fun a o h => by
  obtain ⟨h0, h1⟩ := regm_out h
  rcases h1 with ⟨xs, rfl⟩ | ⟨h1, h2⟩
  · exact regm_tup h0
  · refine regm_in h0 ?_ ?_
    · rcases h1 with h1 | h1
      · exact .inl (by show min f.lo g.lo = 0; omega)
      · by_cases hz : min f.lo g.lo = 0
        · exact .inl hz
        · exact .inr ((k.mono (min f.lo g.lo - 1) (f.lo - 1) (by omega)).none h1)
    · intro z
      exact h2 ((k.mono f.hi (max f.hi g.hi) (by omega)).none z)
theorem Fl.join_comm (f g : Fl) : f.join g = g.join f := by
  unfold Fl.join; rw [Nat.min_comm, Nat.max_comm]
theorem regm_join_r {G : Nat → Hp} {lv : Nat} {f g : Fl} (k : Gok G lv) : Sub (regm G lv g) (regm G lv (f.join g)) := by
  rw [Fl.join_comm]; exact regm_join_l k
/-! what can't change lies in every region -/
mutual
theorem Rp.immut {sx : List (Addr × Addr)} {G : Nat → Hp} {lv : Nat} {f g : Fl} : ∀ (d : D) (v : V), imm d = true → Rp sx (regm G lv f) d v → Rp sx (regm G lv g) d v
  | .non, v, _, h => by simpa only [Rp] using h
  | .bl b, v, _, h => by simpa only [Rp] using h
  | .int i, v, _, h => by simpa only [Rp] using h
  | .str x, v, _, h => by simpa only [Rp] using h
  | .lst xs, v, i, h => by simp [imm] at i
  | .tup xs, v, i, h => by
    simp only [Rp] at h ⊢
    obtain ⟨a, vs, e, h1, h2⟩ := h
    exact ⟨a, vs, e, regm_tup (regm_sub _ _ h1), Rps.immut xs vs (by simpa [imm] using i) h2⟩
  | .dic ks ds, v, i, h => by simp [imm] at i
  | .stm k, v, _, h => by simpa only [Rp] using h
  | .obj k, v, _, h => by simpa only [Rp] using h
theorem Rps.immut {sx : List (Addr × Addr)} {G : Nat → Hp} {lv : Nat} {f g : Fl} : ∀ (ds : List D) (vs : List V), imms ds = true → Rps sx (regm G lv f) ds vs → Rps sx (regm G lv g) ds vs
  | [], vs, _, h => by simpa only [Rps] using h
  | d :: ds, vs, i, h => by
    obtain ⟨v, r, rfl, h1, h2⟩ := h.inv
    have i' : imm d = true ∧ imms ds = true := by simpa [imms] using i
    exact .cons (Rp.immut d v i'.1 h1) (Rps.immut ds r i'.2 h2)
end
theorem Rp.nrm {sx : List (Addr × Addr)} {G : Nat → Hp} {lv : Nat} {f : Fl} {d : D} {v : V} (h : Rp sx (regm G lv f) d v) : Rp sx (regm G lv (nrm d f)) d v := by
  unfold Sd.nrm
  split
  · rename_i i; exact Rp.immut d v i h
  · exact h
theorem Rp.unnrm {sx : List (Addr × Addr)} {G : Nat → Hp} {lv : Nat} {f : Fl} {d : D} {v : V} (h : Rp sx (regm G lv (Sd.nrm d f)) d v) : Rp sx (regm G lv f) d v := by
  unfold Sd.nrm at h
  split at h
  · rename_i i; exact Rp.immut d v i h
  · exact h

/-! ### what is known of a state -/
structure Dy where
  /-- what is to stay -/
  Z : Hp
  /-- what stood at the entry -/
  B : Hp
  /-- the regions -/
  G : Nat → Hp
  /-- the streams' addresses -/
  sx : List (Addr × Addr)
def NotStr (sx : List (Addr × Addr)) (p : Addr) : Prop := ∀ q ∈ sx, p ≠ q.1 ∧ p ≠ q.2
structure StrR (y : Dy) (lv : Nat) (s : List Stm) (H : Hp) : Prop where
  len : y.sx.length = s.length
  at_ : ∀ (g : Nat) (p : Addr × Addr) (t : Stm), y.sx[g]? = some p → s[g]? = some t → H p.1 = some (.lst [.ref p.2, .int t.cur, .int t.cnt, .int t.mix]) ∧ H p.2 = some (.lst (t.cells.map V.int))
  off : ∀ p ∈ y.sx, y.G lv p.1 = none ∧ y.G lv p.2 = none ∧ y.Z p.1 = none ∧ y.Z p.2 = none
  nd : (y.sx.flatMap fun p => [p.1, p.2]).Nodup
/-- the address p holds a list that nothing knows but who owns it -/
def OwnR (y : Dy) (lv : Nat) (H : Hp) (f : Fl) (d : D) (p : Addr) : Prop :=
  y.G lv p = none ∧ y.Z p = none ∧ y.B p = none ∧ NotStr y.sx p ∧
    match d with
    | .lst xs => ∃ vs, H p = some (.lst vs) ∧ Rps y.sx (regm y.G lv f) xs vs
    | _ => False
def SlotR (y : Dy) (lv : Nat) (H : Hp) : Slot → Option V → Prop
  | .un, _ => True
  | .sh f d, o => ∃ v, o = some v ∧ Rp y.sx (regm y.G lv f) d v
  | .ow f d, o => ∃ p, o = some (.ref p) ∧ OwnR y lv H f d p
def OwnAt (c : C) (σ : L2.St) (i : Nat) (p : Addr) : Prop := (∃ f d, c.r[i]? = some (.ow f d)) ∧ σ[i]? = some (some (.ref p))
structure SR (y : Dy) (lv : Nat) (c : C) (σ : L2.St) (H : Hp) : Prop where
  pos : 1 ≤ lv
  zb : ∀ a, y.Z a ≠ none → y.B a ≠ none
  g : Gok y.G lv
  top : Sub (y.G lv) H
  prot : Sub y.Z H
  old : ∀ a, y.B a ≠ none → H a ≠ none
  fresh : ∀ a o, y.G lv a = some o → y.G 0 a = some o ∨ y.B a = none
  slots : ∀ (i : Nat) s, c.r[i]? = some s → SlotR y lv H s (σ.getD i none)
  inj : ∀ (i j : Nat) (p : Addr), OwnAt c σ i p → OwnAt c σ j p → i = j
  str : StrR y lv c.s H
  len : c.r.length = σ.length
/-- what has grown -/
structure Ext (y : Dy) (lv : Nat) (y' : Dy) : Prop where
  z : y'.Z = y.Z
  b : y'.B = y.B
  g : Gext y.G lv y'.G
  s : Pre y.sx y'.sx
theorem Ext.refl {y : Dy} {lv : Nat} : Ext y lv y := ⟨rfl, rfl, Gext.refl, Pre.refl _⟩
theorem Ext.trans {y y' y'' : Dy} {lv : Nat} (a : Ext y lv y') (b : Ext y' lv y'') : Ext y lv y'' := ⟨b.z.trans a.z, b.b.trans a.b, a.g.trans b.g, a.s.trans b.s⟩
/-- a value, ahead and behind -/
theorem Rp.ext {y y' : Dy} {lv : Nat} {c c' : C} {σ σ' : L2.St} {H H' : Hp} {f : Fl} {d : D} {v : V} (e : Ext y lv y') (s : SR y lv c σ H) (s' : SR y' lv c' σ' H') (h : Rp y.sx (regm y.G lv f) d v) : Rp y'.sx (regm y'.G lv f) d v :=
  Rp.mono e.s (regm_mono s.g s'.g e.g) d v h
theorem Rps.ext {y y' : Dy} {lv : Nat} {c c' : C} {σ σ' : L2.St} {H H' : Hp} {f : Fl} {d : List D} {v : List V} (e : Ext y lv y') (s : SR y lv c σ H) (s' : SR y' lv c' σ' H') (h : Rps y.sx (regm y.G lv f) d v) : Rps y'.sx (regm y'.G lv f) d v :=
  Rps.mono e.s (regm_mono s.g s'.g e.g) d v h
/-- what an expression came to -/
def RelR (y : Dy) (lv : Nat) (c : C) (σ : L2.St) (H : Hp) : R → V → Prop
  | .val f d, v => Rp y.sx (regm y.G lv f) d v
  | .new f d, v => ∃ p, v = .ref p ∧ OwnR y lv H f d p ∧ ∀ i, ¬ OwnAt c σ i p
  | .bor i, v => σ[i]? = some (some v)
/-- an operand -/
def RelO (y : Dy) (lv : Nat) (σ : L2.St) : R → V → Prop
  | .val f d, v => Rp y.sx (regm y.G lv f) d v
  | .new _ _, _ => False
  | .bor i, v => σ[i]? = some (some v)
theorem RelO.ext {y y' : Dy} {lv : Nat} {c c' : C} {σ : L2.St} {H H' : Hp} {r : R} {v : V} (e : Ext y lv y') (s : SR y lv c σ H) (s' : SR y' lv c' σ H') (h : RelO y lv σ r v) : RelO y' lv σ r v := by
  cases r with
  | val f d => exact Rp.ext e s s' h
  | new f d => exact h
  | bor i => exact h
/-- what is seen of an operand: the data, in the heap as it is -/
theorem RelO.look {y : Dy} {lv : Nat} {c : C} {σ : L2.St} {H : Hp} {r : R} {v : V} {f : Fl} {d : D} (s : SR y lv c σ H) (h : RelO y lv σ r v) (e : look c r = some (f, d)) :
    Rp y.sx H d v ∧ (∀ xs vs a, d = .lst xs → v = .ref a → H a = some (.lst vs) → Rps y.sx (regm y.G lv f) xs vs) ∧ (∀ xs vs a, d = .tup xs → v = .ref a → H a = some (.tup vs) → Rps y.sx (regm y.G lv f) xs vs) := by
  have gen : ∀ (f : Fl) (d : D) (v : V), Rp y.sx (regm y.G lv f) d v → Rp y.sx H d v ∧ (∀ xs vs a, d = .lst xs → v = .ref a → H a = some (.lst vs) → Rps y.sx (regm y.G lv f) xs vs) ∧ (∀ xs vs a, d = .tup xs → v = .ref a → H a = some (.tup vs) → Rps y.sx (regm y.G lv f) xs vs) := fun f d v h => by
    refine ⟨Rp.mono (Pre.refl _) (regm_sub.trans s.top) d v h, fun xs vs a e1 e2 e3 => ?_, fun xs vs a e1 e2 e3 => ?_⟩
    · subst e1; subst e2
      simp only [Rp] at h
      obtain ⟨b, ws, e4, h1, h2⟩ := h
      cases e4
      have := s.top _ _ (regm_sub _ _ h1)
      rw [e3] at this; cases this
      exact h2
    · subst e1; subst e2
      simp only [Rp] at h
      obtain ⟨b, ws, e4, h1, h2⟩ := h
      cases e4
      have := s.top _ _ (regm_sub _ _ h1)
      rw [e3] at this; cases this
      exact h2
  cases r with
  | val g b =>
    simp only [Sd.look, Option.some.injEq, Prod.mk.injEq] at e
    obtain ⟨rfl, rfl⟩ := e
    exact gen _ _ _ h
  | new g b => exact h.elim
  | bor i =>
    simp only [Sd.look] at e
    split at e
    · rename_i g b hs
      cases e
      have q := s.slots i _ hs
      obtain ⟨p, e1, _, _, _, _, q2⟩ := q
      have hv : σ.getD i none = some v := by rw [List.getD_eq_getElem?_getD, (h : σ[i]? = some (some v))]; rfl
      rw [hv] at e1
      cases e1
      cases d with
      | lst xs =>
        obtain ⟨vs, h1, h2⟩ := q2
        refine ⟨?_, fun ys ws a e1 e2 e3 => ?_, fun ys ws a e1 => by cases e1⟩
        · simp only [Rp]
          exact ⟨p, vs, rfl, h1, Rps.mono (Pre.refl _) (regm_sub.trans s.top) xs vs h2⟩
        · cases e1; cases e2
          rw [h1] at e3; cases e3
          exact h2
      | _ => exact q2.elim
    · rename_i g b hs
      cases e
      have q := s.slots i _ hs
      obtain ⟨w, e1, q2⟩ := q
      have hv : σ.getD i none = some v := by rw [List.getD_eq_getElem?_getD, (h : σ[i]? = some (some v))]; rfl
      rw [hv] at e1
      cases e1
      exact gen _ _ _ q2
    · cases e
end Sd

/-! Sd3: steps of a state. -/
namespace Sd
open PySem PySem.Spec PyProof.Rows L2

theorem getD_set_self {α : Type} {l : List α} {i : Nat} {x d : α} (h : i < l.length) : (l.set i x).getD i d = x := by
  rw [List.getD_eq_getElem?_getD, List.getElem?_set_self h]; rfl
theorem getD_set_ne {α : Type} {l : List α} {i j : Nat} {x d : α} (h : i ≠ j) : (l.set i x).getD j d = l.getD j d := by
  rw [List.getD_eq_getElem?_getD, List.getElem?_set_ne h, ← List.getD_eq_getElem?_getD]
theorem getD_some {σ : L2.St} {i : Nat} {v : V} : σ.getD i none = some v ↔ σ[i]? = some (some v) := by
  rw [List.getD_eq_getElem?_getD]
  cases h : σ[i]? with
  | none => simp
  | some o => simp
theorem OwnR.sub {y : Dy} {lv : Nat} {H H' : Hp} {f : Fl} {d : D} {p : Addr} (s : Sub H H') (h : OwnR y lv H f d p) : OwnR y lv H' f d p := by
  obtain ⟨h1, h2, h3, h4, h5⟩ := h
  refine ⟨h1, h2, h3, h4, ?_⟩
  cases d <;> first | exact h5.elim | (obtain ⟨vs, a, b⟩ := h5; exact ⟨vs, s _ _ a, b⟩)
theorem SlotR.sub {y : Dy} {lv : Nat} {H H' : Hp} {s : Slot} {o : Option V} (e : Sub H H') (h : SlotR y lv H s o) : SlotR y lv H' s o := by
  cases s with
  | un => trivial
  | sh f d => exact h
  | ow f d => obtain ⟨p, h1, h2⟩ := h; exact ⟨p, h1, h2.sub e⟩
theorem StrR.sub {y : Dy} {lv : Nat} {s : List Stm} {H H' : Hp} (e : Sub H H') (h : StrR y lv s H) : StrR y lv s H' :=
  ⟨h.len, fun g p t a b => ⟨e _ _ (h.at_ g p t a b).1, e _ _ (h.at_ g p t a b).2⟩, h.off, h.nd⟩
/-- the heap has grown -/
theorem SR.sub {y : Dy} {lv : Nat} {c : C} {σ : L2.St} {H H' : Hp} (s : SR y lv c σ H) (e : Sub H H') : SR y lv c σ H' :=
  ⟨s.pos, s.zb, s.g, s.top.trans e, s.prot.trans e, fun a h z => s.old a h (e.none z), s.fresh, fun i sl h => (s.slots i sl h).sub e, s.inj, s.str.sub e, s.len⟩
theorem SR.gnone {y : Dy} {lv : Nat} {c : C} {σ : L2.St} {H : Hp} (s : SR y lv c σ H) {p : Addr} (h : H p = none) :
    y.G lv p = none ∧ y.Z p = none ∧ y.B p = none ∧ NotStr y.sx p ∧ ∀ i, ¬ OwnAt c σ i p := by
  refine ⟨s.top.none h, s.prot.none h, ?_, fun q hq => ?_, fun i ho => ?_⟩
  · cases e : y.B p with
    | none => rfl
    | some o => exact absurd h (s.old p (by rw [e]; exact fun z => by cases z))
  · obtain ⟨g, hg⟩ := List.getElem?_of_mem hq
    have hl : g < c.s.length := by rw [← s.str.len]; exact (List.getElem?_eq_some_iff.mp hg).1
    obtain ⟨h1, h2⟩ := s.str.at_ g q _ hg (List.getElem?_eq_getElem hl)
    refine ⟨fun z => ?_, fun z => ?_⟩
    · rw [z, h1] at h; cases h
    · rw [z, h2] at h; cases h
  · obtain ⟨⟨f, d, hf⟩, hs⟩ := ho
    obtain ⟨q, e1, _, _, _, _, e2⟩ := s.slots i _ hf
    rw [getD_some.mpr hs] at e1
    cases e1
    cases d <;> first | exact e2.elim | (obtain ⟨vs, a, _⟩ := e2; rw [h] at a; cases a)

/-! ### a thing goes into the last region -/
def addG (G : Nat → Hp) (lv : Nat) (p : Addr) (o : HO) : Nat → Hp := fun n => if n < lv then G n else upd (G lv) p o
theorem addG_low {G : Nat → Hp} {lv n : Nat} {p : Addr} {o : HO} (h : n < lv) : addG G lv p o n = G n := by unfold addG; rw [if_pos h]
theorem addG_top {G : Nat → Hp} {lv n : Nat} {p : Addr} {o : HO} (h : lv ≤ n) : addG G lv p o n = upd (G lv) p o := by unfold addG; rw [if_neg (by omega)]
theorem Gok.add {G : Nat → Hp} {lv : Nat} {p : Addr} {o : HO} (k : Gok G lv) (hn : G lv p = none) : Gok (addG G lv p o) lv := by
  refine ⟨fun m n h => ?_, fun n h => by rw [addG_top h, addG_top (Nat.le_refl _)]⟩
  by_cases h1 : n < lv
  · rw [addG_low h1, addG_low (by omega)]; exact k.mono m n h
  · rw [addG_top (by omega : lv ≤ n)]
    by_cases h2 : m < lv
    · rw [addG_low h2]; exact (k.mono m lv (by omega)).upd_new ((k.mono m lv (by omega)).none hn)
    · rw [addG_top (by omega : lv ≤ m)]; exact Sub.refl _
theorem Gext.add {G : Nat → Hp} {lv : Nat} {p : Addr} {o : HO} (hn : G lv p = none) : Gext G lv (addG G lv p o) :=
  ⟨fun n h => addG_low h, by rw [addG_top (Nat.le_refl _)]; exact Sub.to_upd hn⟩
abbrev Dy.add (y : Dy) (lv : Nat) (p : Addr) (o : HO) : Dy := { y with G := addG y.G lv p o }
theorem Ext.add {y : Dy} {lv : Nat} {p : Addr} {o : HO} (hn : y.G lv p = none) : Ext y lv (y.add lv p o) := ⟨rfl, rfl, Gext.add hn, Pre.refl _⟩
theorem OwnR.ext {y y' : Dy} {lv : Nat} {H : Hp} {f : Fl} {d : D} {p : Addr} (k : Gok y.G lv) (k' : Gok y'.G lv) (e : Ext y lv y') (hg : y'.G lv p = none) (hs : NotStr y'.sx p) (h : OwnR y lv H f d p) : OwnR y' lv H f d p := by
  obtain ⟨h1, h2, h3, h4, h5⟩ := h
  refine ⟨hg, by rw [e.z]; exact h2, by rw [e.b]; exact h3, hs, ?_⟩
  cases d <;> first | exact h5.elim | (obtain ⟨vs, a, b⟩ := h5; exact ⟨vs, a, Rps.mono e.s (regm_mono k k' e.g) _ _ b⟩)
/-- an owned or a new thing, a new tuple: frozen -/
theorem SR.freeze {y : Dy} {lv : Nat} {c : C} {σ : L2.St} {H : Hp} {p : Addr} {o : HO} (s : SR y lv c σ H) (hp : H p = some o) (h1 : y.G lv p = none) (h3 : y.B p = none) (h4 : NotStr y.sx p) (h5 : ∀ i, ¬ OwnAt c σ i p) :
    SR (y.add lv p o) lv c σ H := by
  have k' : Gok (addG y.G lv p o) lv := s.g.add h1
  have e : Ext y lv (y.add lv p o) := Ext.add h1
  refine ⟨s.pos, s.zb, k', ?_, s.prot, s.old, fun a u ha => ?_, fun i sl hi => ?_, s.inj, ?_, s.len⟩
  · show Sub (addG y.G lv p o lv) H
    rw [addG_top (Nat.le_refl _)]; exact s.top.upd_in hp
  · have ha : addG y.G lv p o lv a = some u := ha
    show addG y.G lv p o 0 a = some u ∨ _
    rw [addG_low (show 0 < lv from s.pos)]
    rw [addG_top (Nat.le_refl _)] at ha
    by_cases hap : a = p
    · subst hap; exact .inr h3
    · rw [upd_ne hap] at ha; exact s.fresh a u ha
  · cases sl with
    | un => trivial
    | sh f d =>
      obtain ⟨v, e1, e2⟩ := s.slots i _ hi
      exact ⟨v, e1, Rp.mono (Pre.refl _) (regm_mono s.g k' e.g) d v e2⟩
    | ow f d =>
      obtain ⟨q, e1, e2⟩ := s.slots i _ hi
      have hq : q ≠ p := fun z => h5 i ⟨⟨f, d, hi⟩, getD_some.mp (by rw [← z]; exact e1)⟩
      refine ⟨q, e1, e2.ext s.g k' e ?_ e2.2.2.2.1⟩
      show addG y.G lv p o lv q = none
      rw [addG_top (Nat.le_refl _), upd_ne hq]; exact e2.1
  · refine ⟨s.str.len, s.str.at_, fun q hq => ?_, s.str.nd⟩
    obtain ⟨a1, a2, a3, a4⟩ := s.str.off q hq
    refine ⟨?_, ?_, a3, a4⟩
    · show addG y.G lv p o lv q.1 = none
      rw [addG_top (Nat.le_refl _), upd_ne (Ne.symm (h4 q hq).1)]; exact a1
    · show addG y.G lv p o lv q.2 = none
      rw [addG_top (Nat.le_refl _), upd_ne (Ne.symm (h4 q hq).2)]; exact a2
theorem rp_add {y : Dy} {lv : Nat} {f : Fl} {p : Addr} {xs : List D} {vs : List V} (k : Gok y.G lv) (hn : y.G lv p = none) (h : Rps y.sx (regm y.G lv f) xs vs) :
    Rp y.sx (regm (addG y.G lv p (.lst vs)) lv (f.join (.at lv))) (.lst xs) (.ref p) := by
  have k' : Gok (addG y.G lv p (.lst vs)) lv := k.add hn
  simp only [Rp]
  refine ⟨p, vs, rfl, regm_in (by rw [addG_top (Nat.le_refl _), upd_same]) ?_ ?_, ?_⟩
  · by_cases hz : min f.lo lv = 0
    · exact .inl hz
    · right
      show addG y.G lv p (.lst vs) (min f.lo lv - 1) p = none
      rw [addG_low (by omega)]
      exact (k.mono _ lv (by omega)).none hn
  · show addG y.G lv p (.lst vs) (max f.hi lv) p ≠ none
    rw [addG_top (by omega), upd_same]; exact fun z => by cases z
  · exact Rps.mono (Pre.refl _) ((regm_mono k k' (Gext.add hn)).trans (regm_join_l k')) _ _ h
theorem rp_addT {y : Dy} {lv : Nat} {f : Fl} {p : Addr} {xs : List D} {vs : List V} (k : Gok y.G lv) (hn : y.G lv p = none) (h : Rps y.sx (regm y.G lv f) xs vs) :
    Rp y.sx (regm (addG y.G lv p (.tup vs)) lv (f.join (.at lv))) (.tup xs) (.ref p) := by
  have k' : Gok (addG y.G lv p (.tup vs)) lv := k.add hn
  simp only [Rp]
  exact ⟨p, vs, rfl, regm_tup (by rw [addG_top (Nat.le_refl _), upd_same]), Rps.mono (Pre.refl _) ((regm_mono k k' (Gext.add hn)).trans (regm_join_l k')) _ _ h⟩
/-- slot i is no owner any more: it holds these data -/
theorem SR.slot {y : Dy} {lv : Nat} {c : C} {σ : L2.St} {H : Hp} {i : Nat} {f : Fl} {d : D} {v : V} (s : SR y lv c σ H) (hv : σ[i]? = some (some v)) (r : Rp y.sx (regm y.G lv f) d v) :
    SR y lv { c with r := c.r.set i (.sh f d) } σ H := by
  refine ⟨s.pos, s.zb, s.g, s.top, s.prot, s.old, s.fresh, fun j sl hj => ?_, fun j k p h1 h2 => ?_, s.str, by simpa using s.len⟩
  · have hj : (c.r.set i (.sh f d))[j]? = some sl := hj
    by_cases hij : i = j
    · subst hij
      have hi : i < c.r.length := by
        have := (List.getElem?_eq_some_iff.mp hj).1
        simpa using this
      rw [List.getElem?_set_self hi] at hj
      cases hj
      exact ⟨v, getD_some.mpr hv, r⟩
    · rw [List.getElem?_set_ne hij] at hj; exact s.slots j sl hj
  · have back : ∀ {j : Nat}, OwnAt { c with r := c.r.set i (.sh f d) } σ j p → OwnAt c σ j p := fun {j} ⟨⟨g, e, h⟩, h'⟩ => by
      have h : (c.r.set i (.sh f d))[j]? = some (.ow g e) := h
      by_cases hij : i = j
      · subst hij
        have hi : i < c.r.length := by
          have := (List.getElem?_eq_some_iff.mp h).1
          simpa using this
        rw [List.getElem?_set_self hi] at h; cases h
      · rw [List.getElem?_set_ne hij] at h; exact ⟨⟨g, e, h⟩, h'⟩
    exact s.inj j k p (back h1) (back h2)
/-- a name is stored: data -/
theorem SR.store {y : Dy} {lv : Nat} {c : C} {σ : L2.St} {H : Hp} {i : Nat} {f : Fl} {d : D} {v : V} (s : SR y lv c σ H) (r : Rp y.sx (regm y.G lv f) d v) :
    SR y lv { c with r := c.r.set i (.sh f d) } (σ.set i (some v)) H := by
  refine ⟨s.pos, s.zb, s.g, s.top, s.prot, s.old, s.fresh, fun j sl hj => ?_, fun j k p h1 h2 => ?_, s.str, by simpa using s.len⟩
  · have hj : (c.r.set i (.sh f d))[j]? = some sl := hj
    by_cases hij : i = j
    · subst hij
      have hi : i < c.r.length := by
        have := (List.getElem?_eq_some_iff.mp hj).1
        simpa using this
      rw [List.getElem?_set_self hi] at hj
      cases hj
      exact ⟨v, getD_set_self (by rw [← s.len]; exact hi), r⟩
    · rw [List.getElem?_set_ne hij] at hj
      rw [getD_set_ne hij]; exact s.slots j sl hj
  · have back : ∀ {j : Nat}, OwnAt { c with r := c.r.set i (.sh f d) } (σ.set i (some v)) j p → OwnAt c σ j p := fun {j} ⟨⟨g, e, h⟩, h'⟩ => by
      have h : (c.r.set i (.sh f d))[j]? = some (.ow g e) := h
      by_cases hij : i = j
      · subst hij
        have hi : i < c.r.length := by
          have := (List.getElem?_eq_some_iff.mp h).1
          simpa using this
        rw [List.getElem?_set_self hi] at h; cases h
      · rw [List.getElem?_set_ne hij] at h h'; exact ⟨⟨g, e, h⟩, h'⟩
    exact s.inj j k p (back h1) (back h2)
/-- a name is stored: it owns a new thing -/
theorem SR.own {y : Dy} {lv : Nat} {c : C} {σ : L2.St} {H : Hp} {i : Nat} {f : Fl} {d : D} {p : Addr} (s : SR y lv c σ H) (r : OwnR y lv H f d p) (n : ∀ j, ¬ OwnAt c σ j p) :
    SR y lv { c with r := c.r.set i (.ow f d) } (σ.set i (some (.ref p))) H := by
  refine ⟨s.pos, s.zb, s.g, s.top, s.prot, s.old, s.fresh, fun j sl hj => ?_, fun j k q h1 h2 => ?_, s.str, by simpa using s.len⟩
  · have hj : (c.r.set i (.ow f d))[j]? = some sl := hj
    by_cases hij : i = j
    · subst hij
      have hi : i < c.r.length := by
        have := (List.getElem?_eq_some_iff.mp hj).1
        simpa using this
      rw [List.getElem?_set_self hi] at hj
      cases hj
      exact ⟨p, getD_set_self (by rw [← s.len]; exact hi), r⟩
    · rw [List.getElem?_set_ne hij] at hj
      rw [getD_set_ne hij]; exact s.slots j sl hj
  · have back : ∀ {j : Nat}, OwnAt { c with r := c.r.set i (.ow f d) } (σ.set i (some (.ref p))) j q → (j = i ∧ q = p) ∨ (j ≠ i ∧ OwnAt c σ j q) := fun {j} ⟨⟨g, e, h⟩, h'⟩ => by
      have h : (c.r.set i (.ow f d))[j]? = some (.ow g e) := h
      by_cases hij : i = j
      · subst hij
        have hi : i < σ.length := by
          have := (List.getElem?_eq_some_iff.mp h').1
          simpa using this
        rw [List.getElem?_set_self hi] at h'
        cases h'
        exact .inl ⟨rfl, rfl⟩
      · rw [List.getElem?_set_ne hij] at h h'; exact .inr ⟨Ne.symm hij, ⟨g, e, h⟩, h'⟩
    rcases back h1 with ⟨a1, a2⟩ | ⟨a1, a2⟩ <;> rcases back h2 with ⟨b1, b2⟩ | ⟨b1, b2⟩
    · rw [a1, b1]
    · subst a2; exact absurd b2 (n k)
    · subst b2; exact absurd a2 (n j)
    · exact s.inj j k q a2 b2
/-- slot i is forgotten -/
theorem SR.forget {y : Dy} {lv : Nat} {c : C} {σ : L2.St} {H : Hp} {i : Nat} (s : SR y lv c σ H) (o : Option V) : SR y lv { c with r := c.r.set i .un } (σ.set i o) H := by
  refine ⟨s.pos, s.zb, s.g, s.top, s.prot, s.old, s.fresh, fun j sl hj => ?_, fun j k p h1 h2 => ?_, s.str, by simpa using s.len⟩
  · have hj : (c.r.set i .un)[j]? = some sl := hj
    by_cases hij : i = j
    · subst hij
      have hi : i < c.r.length := by
        have := (List.getElem?_eq_some_iff.mp hj).1
        simpa using this
      rw [List.getElem?_set_self hi] at hj
      cases hj
      trivial
    · rw [List.getElem?_set_ne hij] at hj
      rw [getD_set_ne hij]; exact s.slots j sl hj
  · have back : ∀ {j : Nat}, OwnAt { c with r := c.r.set i .un } (σ.set i o) j p → OwnAt c σ j p := fun {j} ⟨⟨g, e, h⟩, h'⟩ => by
      have h : (c.r.set i .un)[j]? = some (.ow g e) := h
      by_cases hij : i = j
      · subst hij
        have hi : i < c.r.length := by
          have := (List.getElem?_eq_some_iff.mp h).1
          simpa using this
        rw [List.getElem?_set_self hi] at h; cases h
      · rw [List.getElem?_set_ne hij] at h h'; exact ⟨⟨g, e, h⟩, h'⟩
    exact s.inj j k p (back h1) (back h2)
/-- the list that slot i owns is changed -/
theorem SR.change {y : Dy} {lv : Nat} {c : C} {σ : L2.St} {H : Hp} {i : Nat} {f g : Fl} {d : D} {p : Addr} {xs : List D} {vs : List V} (s : SR y lv c σ H) (hi : c.r[i]? = some (.ow f d)) (hp : σ[i]? = some (some (.ref p))) (r : Rps y.sx (regm y.G lv g) xs vs) :
    SR y lv { c with r := c.r.set i (.ow g (.lst xs)) } σ (upd H p (.lst vs)) := by
  obtain ⟨q, e1, o1, o2, o3, o4, o5⟩ := s.slots i _ hi
  rw [getD_some.mpr hp] at e1
  cases e1
  have hil : i < c.r.length := (List.getElem?_eq_some_iff.mp hi).1
  have ownback : ∀ {j : Nat} {q : Addr}, OwnAt { c with r := c.r.set i (.ow g (.lst xs)) } σ j q → OwnAt c σ j q := fun {j q} ⟨⟨k, e, h⟩, h'⟩ => by
    have h : (c.r.set i (.ow g (.lst xs)))[j]? = some (.ow k e) := h
    by_cases hij : i = j
    · subst hij; exact ⟨⟨f, d, hi⟩, h'⟩
    · rw [List.getElem?_set_ne hij] at h; exact ⟨⟨k, e, h⟩, h'⟩
  refine ⟨s.pos, s.zb, s.g, s.top.upd_new o1, s.prot.upd_new o2, fun a h z => ?_, s.fresh, fun j sl hj => ?_, fun j k q h1 h2 => s.inj j k q (ownback h1) (ownback h2), ?_, by simpa using s.len⟩
  · by_cases ha : a = p
    · subst ha; rw [upd_same] at z; cases z
    · rw [upd_ne ha] at z; exact s.old a h z
  · have hj : (c.r.set i (.ow g (.lst xs)))[j]? = some sl := hj
    by_cases hij : i = j
    · subst hij
      rw [List.getElem?_set_self hil] at hj
      cases hj
      exact ⟨p, getD_some.mpr hp, o1, o2, o3, o4, vs, upd_same, r⟩
    · rw [List.getElem?_set_ne hij] at hj
      cases sl with
      | un => trivial
      | sh f d => exact s.slots j _ hj
      | ow k e =>
        obtain ⟨q, e1, q1, q2, q3, q4, q5⟩ := s.slots j _ hj
        have hq : q ≠ p := fun z => hij (s.inj i j p ⟨⟨f, d, hi⟩, hp⟩ ⟨⟨k, e, hj⟩, getD_some.mp (by rw [← z]; exact e1)⟩)
        refine ⟨q, e1, q1, q2, q3, q4, ?_⟩
        cases e <;> first | exact q5.elim | (obtain ⟨ws, a, b⟩ := q5; exact ⟨ws, by rw [upd_ne hq]; exact a, b⟩)
  · refine ⟨s.str.len, fun k q t h1 h2 => ?_, s.str.off, s.str.nd⟩
    have hq := o4 q (List.mem_of_getElem? h1)
    rw [upd_ne (Ne.symm hq.1), upd_ne (Ne.symm hq.2)]
    exact s.str.at_ k q t h1 h2
end Sd

/-! Sd4: readings by the evaluator. -/
namespace Sd
open PySem PySem.Spec PyProof.Rows L2

def Post {α : Type} (o : Out α) (W : Exn → C → Prop) (K : α → C → Prop) : Prop := match o with
  | .ok a c => K a c
  | .exc e c => W e c
  | .stuck => False
theorem Post.bind {α β : Type} {o : Out α} {f : α → C → Out β} {W : Exn → C → Prop} {K : β → C → Prop} : Post (o.bind f) W K = Post o W fun a c => Post (f a c) W K := by
  cases o <;> rfl
theorem Post.imp {α : Type} {o : Out α} {W W' : Exn → C → Prop} {K K' : α → C → Prop} (h : Post o W K) (hw : ∀ e c, W e c → W' e c) (hk : ∀ a c, K a c → K' a c) : Post o W' K' := by
  cases o with
  | ok a c => exact hk _ _ h
  | exc e c => exact hw _ _ h
  | stuck => exact h
theorem Post.ofOpt {α : Type} {o : Option α} {c : C} {W : Exn → C → Prop} {K : α → C → Prop} : Post (Sd.ofOpt o c) W K = ∃ a, o = some a ∧ K a c := by
  cases o with
  | none => simp [Sd.ofOpt, Post]
  | some a => simp [Sd.ofOpt, Post]

/-- the package's error classes: where each stands, its field -/
abbrev Ct := Str → Option (Addr × Str)
/-- an error as it lies -/
def ExR (ct : Ct) (y : Dy) (lv : Nat) (H : Hp) (e : Exn) (cv : Value) (d : Option Addr) : Prop :=
  ∃ C fld dx v, ct e.cls = some (C, fld) ∧ cv = .ref C ∧ d = some dx ∧ H dx = some (.xd [(fld, v)]) ∧ Rp y.sx (regm y.G lv e.fl) e.arg v
/-- what is wished of an error -/
def XW (ct : Ct) (lv : Nat) (y : Dy) (σ : L2.St) (W : WX) : Exn → C → Prop := fun e c' =>
  ∀ y' H' cv d, Ext y lv y' → SR y' lv c' σ H' → ExR ct y' lv H' e cv d → W cv d σ H'
theorem XW.ext {ct : Ct} {lv : Nat} {y y' : Dy} {σ : L2.St} {W : WX} (x : Ext y lv y') : ∀ e c, XW ct lv y σ W e c → XW ct lv y' σ W e c :=
  fun e c h y2 H' cv d x2 s r => h y2 H' cv d (x.trans x2) s r

/-- a tuple, in the heap and in a region -/
def TupAt (y : Dy) (lv : Nat) (H : Hp) (a : Addr) (vs : List V) : Prop := H a = some (.tup vs) ∧ y.G lv a = some (.tup vs)
/-- the data as they lie in the heap of now -/
def Vw (y : Dy) (lv : Nat) (H : Hp) (f : Fl) (d : D) (v : V) : Prop := match d with
  | .lst xs => ∃ a vs, v = .ref a ∧ H a = some (.lst vs) ∧ Rps y.sx (regm y.G lv f) xs vs
  | .tup xs => ∃ a vs, v = .ref a ∧ TupAt y lv H a vs ∧ Rps y.sx (regm y.G lv f) xs vs
  | d => Rp y.sx H d v
theorem Vw.of {y : Dy} {lv : Nat} {H : Hp} {f : Fl} {d : D} {v : V} (t : Sub (y.G lv) H) (h : Rp y.sx (regm y.G lv f) d v) : Vw y lv H f d v := by
  have up : Sub (regm y.G lv f) H := regm_sub.trans t
  cases d with
  | lst xs => simp only [Rp] at h; obtain ⟨a, vs, e, h1, h2⟩ := h; exact ⟨a, vs, e, up _ _ h1, h2⟩
  | tup xs => simp only [Rp] at h; obtain ⟨a, vs, e, h1, h2⟩ := h; exact ⟨a, vs, e, ⟨up _ _ h1, regm_sub _ _ h1⟩, h2⟩
  | _ => exact Rp.mono (Pre.refl _) up _ _ h
theorem RelO.vw {y : Dy} {lv : Nat} {c : C} {σ : L2.St} {H : Hp} {r : R} {v : V} {f : Fl} {d : D} (s : SR y lv c σ H) (h : RelO y lv σ r v) (e : Sd.look c r = some (f, d)) : Vw y lv H f d v := by
  cases r with
  | val g b =>
    simp only [Sd.look, Option.some.injEq, Prod.mk.injEq] at e
    obtain ⟨rfl, rfl⟩ := e
    exact .of s.top h
  | new g b => exact h.elim
  | bor i =>
    simp only [Sd.look] at e
    split at e
    · rename_i g b hs
      cases e
      obtain ⟨p, e1, _, _, _, _, q2⟩ := s.slots i _ hs
      rw [getD_some.mpr h] at e1
      cases e1
      cases d <;> first | exact q2.elim | (obtain ⟨vs, a, b⟩ := q2; exact ⟨p, vs, rfl, a, b⟩)
    · rename_i g b hs
      cases e
      obtain ⟨w, e1, q2⟩ := s.slots i _ hs
      rw [getD_some.mpr h] at e1
      cases e1
      exact .of s.top q2
    · cases e
theorem Vw.rp {y : Dy} {lv : Nat} {H : Hp} {f : Fl} {d : D} {v : V} (t : Sub (y.G lv) H) (h : Vw y lv H f d v) : Rp y.sx H d v := by
  have up : Sub (regm y.G lv f) H := regm_sub.trans t
  cases d with
  | lst xs => obtain ⟨a, vs, e, h1, h2⟩ := h; simp only [Rp]; exact ⟨a, vs, e, h1, Rps.mono (Pre.refl _) up _ _ h2⟩
  | tup xs => obtain ⟨a, vs, e, h1, h2⟩ := h; simp only [Rp]; exact ⟨a, vs, e, h1.1, Rps.mono (Pre.refl _) up _ _ h2⟩
  | _ => exact h

/-! ### a new list, a new tuple -/
theorem SR.alloc {y : Dy} {lv : Nat} {c : C} {σ : L2.St} {H : Hp} (s : SR y lv c σ H) {p : Addr} (o : HO) (h : H p = none) : SR y lv c σ (upd H p o) := s.sub (Sub.to_upd h)
theorem SR.newList {y : Dy} {lv : Nat} {c : C} {σ : L2.St} {H : Hp} (s : SR y lv c σ H) {p : Addr} {f : Fl} {xs : List D} {vs : List V} (h : H p = none) (r : Rps y.sx (regm y.G lv f) xs vs) :
    SR y lv c σ (upd H p (.lst vs)) ∧ RelR y lv c σ (upd H p (.lst vs)) (.new f (.lst xs)) (.ref p) := by
  obtain ⟨h1, h2, h3, h4, h5⟩ := s.gnone h
  exact ⟨s.alloc _ h, p, rfl, ⟨h1, h2, h3, h4, vs, upd_same, r⟩, h5⟩
theorem SR.newTup {y : Dy} {lv : Nat} {c : C} {σ : L2.St} {H : Hp} (s : SR y lv c σ H) {p : Addr} {f : Fl} {xs : List D} {vs : List V} (h : H p = none) (r : Rps y.sx (regm y.G lv f) xs vs) :
    ∃ y', Ext y lv y' ∧ SR y' lv c σ (upd H p (.tup vs)) ∧ Rp y'.sx (regm y'.G lv (f.join (.at lv))) (.tup xs) (.ref p) := by
  obtain ⟨h1, h2, h3, h4, h5⟩ := s.gnone h
  exact ⟨_, Ext.add h1, (s.alloc (.tup vs) h).freeze upd_same h1 h3 h4 h5, rp_addT s.g h1 r⟩
/-- a result in hand is frozen -/
theorem frz_ok {y : Dy} {lv : Nat} {c : C} {σ : L2.St} {H : Hp} {r : R} {v : V} (s : SR y lv c σ H) (h : RelR y lv c σ H r v) {W : Exn → C → Prop} {K : Fl × D → C → Prop} (q : Post (frz lv c r) W K) :
    ∃ f d c' y', K (f, d) c' ∧ Ext y lv y' ∧ SR y' lv c' σ H ∧ Rp y'.sx (regm y'.G lv f) d v := by
  cases r with
  | val f d => exact ⟨f, d, c, y, q, Ext.refl, s, h⟩
  | new f d =>
    obtain ⟨p, rfl, ⟨o1, o2, o3, o4, o5⟩, n⟩ := h
    cases d with
    | lst xs =>
      obtain ⟨vs, a, b⟩ := o5
      exact ⟨_, _, c, _, q, Ext.add o1, s.freeze a o1 o3 o4 n, rp_add s.g o1 b⟩
    | _ => exact o5.elim
  | bor i =>
    simp only [frz] at q
    split at q
    · rename_i f d hs
      obtain ⟨p, e1, o1, o2, o3, o4, o5⟩ := s.slots i _ hs
      rw [getD_some.mpr h] at e1
      cases e1
      cases d with
      | lst xs =>
        obtain ⟨vs, a, b⟩ := o5
        have r' := rp_add s.g o1 b
        -- the slot is no owner any more, then the thing goes into the region
        have k' : Gok (addG y.G lv p (.lst vs)) lv := s.g.add o1
        have x : Ext y lv (y.add lv p (.lst vs)) := Ext.add o1
        have s1 : SR y lv { c with r := c.r.set i .un } σ H := by
          have z := s.forget (i := i) (some (.ref p))
          have e : σ.set i (some (V.ref p)) = σ := by
            refine List.ext_getElem? fun j => ?_
            by_cases hij : i = j
            · subst hij
              have hi := (List.getElem?_eq_some_iff.mp (h : σ[i]? = _)).1
              rw [List.getElem?_set_self hi]; exact (h : σ[i]? = _).symm
            · rw [List.getElem?_set_ne hij]
          rw [e] at z; exact z
        have nown : ∀ j, ¬ OwnAt { c with r := c.r.set i .un } σ j p := fun j ⟨⟨g, e, hj⟩, hj'⟩ => by
          have hj : (c.r.set i .un)[j]? = some (.ow g e) := hj
          by_cases hij : i = j
          · subst hij
            have hi : i < c.r.length := (List.getElem?_eq_some_iff.mp hs).1
            rw [List.getElem?_set_self hi] at hj; cases hj
          · rw [List.getElem?_set_ne hij] at hj
            exact hij (s.inj i j p ⟨⟨f, _, hs⟩, h⟩ ⟨⟨g, e, hj⟩, hj'⟩)
        have s2 := s1.freeze a o1 o3 o4 nown
        have s3 := s2.slot (i := i) (f := f.join (.at lv)) (d := .lst xs) h r'
        have e2 : ({ c with r := (c.r.set i .un).set i (.sh (f.join (.at lv)) (.lst xs)) } : C) = { c with r := c.r.set i (.sh (f.join (.at lv)) (.lst xs)) } := by rw [List.set_set]
        rw [e2] at s3
        exact ⟨_, _, _, _, q, x, s3, r'⟩
      | _ => exact o5.elim
    · rename_i f d hs
      obtain ⟨w, e1, q2⟩ := s.slots i _ hs
      rw [getD_some.mpr h] at e1
      cases e1
      exact ⟨f, d, c, y, q, Ext.refl, s, q2⟩
    · exact q.elim
theorem opd_ok {y : Dy} {lv : Nat} {c : C} {σ : L2.St} {H : Hp} {r : R} {v : V} (s : SR y lv c σ H) (h : RelR y lv c σ H r v) {W : Exn → C → Prop} {K : R → C → Prop} (q : Post (opd lv c r) W K) :
    ∃ r' y', K r' c ∧ Ext y lv y' ∧ SR y' lv c σ H ∧ RelO y' lv σ r' v := by
  cases r with
  | val f d => exact ⟨.val f d, y, q, Ext.refl, s, h⟩
  | new f d =>
    obtain ⟨f', d', c', y', k, x, s', r'⟩ := frz_ok (W := W) (K := fun fd c => K (.val fd.1 fd.2) c) s h q
    have : frz lv c (.new f d) = .ok (f.join (.at lv), d) c := rfl
    obtain ⟨p, rfl, ⟨o1, o2, o3, o4, o5⟩, n⟩ := h
    cases d with
    | lst xs =>
      obtain ⟨vs, a, b⟩ := o5
      exact ⟨_, _, q, Ext.add o1, s.freeze a o1 o3 o4 n, rp_add s.g o1 b⟩
    | _ => exact o5.elim
  | bor i => exact ⟨.bor i, y, q, Ext.refl, s, h⟩

/-! ### readings -/
section
variable (ct : Ct) (cl : Caller) (sg : Sig) (W : WX) (lv : Nat)
/-- an expression's reading -/
def tE (a : IE) : TE := fun σ H Q => ∃ y c, SR y lv c σ H ∧ Post (evE cl sg lv a c) (XW ct lv y σ W) fun r c' => ∀ y' v H', Ext y lv y' → SR y' lv c' σ H' → RelR y' lv c' σ H' r v → Q v H'
/-- a test's -/
def tT (a : IE) : TT := fun σ H Q => ∃ y c, SR y lv c σ H ∧ Post ((evE cl sg lv a c).t lv) (XW ct lv y σ W) fun k c' => ∀ y' H', Ext y lv y' → SR y' lv c' σ H' → Q k H'
/-- operands -/
def tAo (as : List IE) : TA := fun σ H Q => ∃ y c, SR y lv c σ H ∧ Post (evA cl sg lv as c) (XW ct lv y σ W) fun rs c' => ∀ y' vs H', Ext y lv y' → SR y' lv c' σ H' → Paired (RelO y' lv σ) rs vs → Q vs H'
/-- frozen ones -/
def tAf (as : List IE) : TA := fun σ H Q => ∃ y c, SR y lv c σ H ∧ Post (evF cl sg lv as c) (XW ct lv y σ W) fun fd c' => ∀ y' vs H', Ext y lv y' → SR y' lv c' σ H' → Rps y'.sx (regm y'.G lv fd.1) fd.2 vs → Q vs H'
def tAs (as : List IE) : TA := fun σ H Q => ∃ y c, SR y lv c σ H ∧ Post (evS cl sg lv as c) (XW ct lv y σ W) fun fd c' => ∀ y' vs H', Ext y lv y' → SR y' lv c' σ H' → Rps y'.sx (regm y'.G lv fd.1) fd.2 vs → Q vs H'
end
section
variable {ct : Ct} {cl : Caller} {sg : Sig} {W : WX} {lv : Nat} {a : IE} {y : Dy} {c : C} {σ : L2.St} {H : Hp}
theorem toO {Q : VK} (s : SR y lv c σ H) (h : Post ((evE cl sg lv a c).o lv) (XW ct lv y σ W) fun r c' => ∀ y' v H', Ext y lv y' → SR y' lv c' σ H' → RelO y' lv σ r v → Q v H') : tE ct cl sg W lv a σ H Q := by
  refine ⟨y, c, s, ?_⟩
  rw [Out.o, Post.bind] at h
  refine h.imp (fun _ _ z => z) fun r c' k y' v H' x s' rr => ?_
  obtain ⟨r', y2, k2, x2, s2, o⟩ := opd_ok s' rr k
  exact k2 y2 v H' (x.trans x2) s2 o
theorem toZ {Q : VK} (s : SR y lv c σ H) (h : Post ((evE cl sg lv a c).z lv) (XW ct lv y σ W) fun fd c' => ∀ y' v H', Ext y lv y' → SR y' lv c' σ H' → Rp y'.sx (regm y'.G lv fd.1) fd.2 v → Q v H') : tE ct cl sg W lv a σ H Q := by
  refine ⟨y, c, s, ?_⟩
  rw [Out.z, Post.bind] at h
  refine h.imp (fun _ _ z => z) fun r c' k y' v H' x s' rr => ?_
  obtain ⟨f, d, c2, y2, k2, x2, s2, o⟩ := frz_ok s' rr k
  exact k2 y2 v H' (x.trans x2) s2 o
end
theorem _root_.L2.PE.conseq {X : Cx} {e : Expr} {t t' : TE} (h : PE X e t) (i : ∀ σ H Q, t' σ H Q → t σ H Q) : PE X e t' := ⟨fun pins s σ H Q I hw => h.run pins s σ H Q I (i _ _ _ hw)⟩
theorem _root_.L2.PT.conseq {X : Cx} {e : Expr} {t t' : TT} (h : PT X e t) (i : ∀ σ H Q, t' σ H Q → t σ H Q) : PT X e t' := ⟨fun pins s σ H Q I hw => h.run pins s σ H Q I (i _ _ _ hw)⟩
theorem _root_.L2.PW.conseq {X : Cx} {e : Expr} {t t' : TT} (h : PW X e t) (i : ∀ σ H Q, t' σ H Q → t σ H Q) : PW X e t' := ⟨fun wh pins s σ H Q I hw => h.run wh pins s σ H Q I (i _ _ _ hw)⟩
theorem _root_.L2.PA.conseq {X : Cx} {es : List Expr} {t t' : TA} (h : PA X es t) (i : ∀ σ H Q, t' σ H Q → t σ H Q) : PA X es t' := ⟨fun pos pins s σ H Q I hw => h.run pos pins s σ H Q I (i _ _ _ hw)⟩
theorem _root_.L2.PS.conseq {X : Cx} {e : Stmt} {t t' : TS} (h : PS X e t) (i : ∀ D σ H, t' D σ H → t D σ H) : PS X e t' := ⟨fun pins s σ H D I hw => h.run pins s σ H D I (i _ _ _ hw)⟩
theorem _root_.L2.PSs.conseq {X : Cx} {e : List Stmt} {t t' : TS} (h : PSs X e t) (i : ∀ D σ H, t' D σ H → t D σ H) : PSs X e t' := ⟨fun pins s σ H D I hw => h.run pins s σ H D I (i _ _ _ hw)⟩
theorem _root_.L2.PI.conseq {X : Cx} {tg e : Expr} {t t' : TI} (h : PI X tg e t) (i : ∀ σ H R, t' σ H R → t σ H R) : PI X tg e t' := ⟨fun pins s σ H R I hw => h.run pins s σ H R I (i _ _ _ hw)⟩
theorem pe_never {X : Cx} {e : Expr} : PE X e fun _ _ _ => False := ⟨fun _ _ _ _ _ _ h => h.elim⟩
end Sd

/-! Sd5: expressions, one by one. -/
namespace Sd
open PySem PySem.Spec PyProof.Rows L2

section
variable {X : Cx} {ct : Ct} {cl : Caller} {sg : Sig} {W : WX} {lv : Nat} {y : Dy} {c : C} {σ : L2.St} {H : Hp}

/-- a step into an expression, as an operand -/
theorem goO {a : IE} {Q : VK} {F : R → C → Out R} {K : R → C → Prop} (s : SR y lv c σ H) (h : Post (((evE cl sg lv a c).o lv).bind F) (XW ct lv y σ W) K)
    (k : ∀ r c' y' v H', Ext y lv y' → SR y' lv c' σ H' → RelO y' lv σ r v → Post (F r c') (XW ct lv y σ W) K → Q v H') : tE ct cl sg W lv a σ H Q := by
  rw [Post.bind] at h
  exact toO s (h.imp (fun _ _ z => z) fun r c' q y' v H' x s' rr => k r c' y' v H' x s' rr q)
theorem goOB {a : IE} {Q : VK} {β : Type} {F : R → C → Out β} {K : β → C → Prop} (s : SR y lv c σ H) (h : Post (((evE cl sg lv a c).o lv).bind F) (XW ct lv y σ W) K)
    (k : ∀ r c' y' v H', Ext y lv y' → SR y' lv c' σ H' → RelO y' lv σ r v → Post (F r c') (XW ct lv y σ W) K → Q v H') : tE ct cl sg W lv a σ H Q := by
  rw [Post.bind] at h
  exact toO s (h.imp (fun _ _ z => z) fun r c' q y' v H' x s' rr => k r c' y' v H' x s' rr q)
theorem goZ {a : IE} {Q : VK} {β : Type} {F : Fl × D → C → Out β} {K : β → C → Prop} (s : SR y lv c σ H) (h : Post (((evE cl sg lv a c).z lv).bind F) (XW ct lv y σ W) K)
    (k : ∀ fd c' y' v H', Ext y lv y' → SR y' lv c' σ H' → Rp y'.sx (regm y'.G lv fd.1) fd.2 v → Post (F fd c') (XW ct lv y σ W) K → Q v H') : tE ct cl sg W lv a σ H Q := by
  rw [Post.bind] at h
  exact toZ s (h.imp (fun _ _ z => z) fun r c' q y' v H' x s' rr => k r c' y' v H' x s' rr q)
/-- what a continuation of ahead says behind a step -/
theorem KE {y' : Dy} {σ : L2.St} {Q : VK} {r : R} {c' : C} (x : Ext y lv y') (k : ∀ y2 v H2, Ext y lv y2 → SR y2 lv c' σ H2 → RelR y2 lv c' σ H2 r v → Q v H2) : ∀ y2 v H2, Ext y' lv y2 → SR y2 lv c' σ H2 → RelR y2 lv c' σ H2 r v → Q v H2 :=
  fun y2 v H2 x2 => k y2 v H2 (x.trans x2)

/-! ### constants, names -/
theorem val_ok {f : Fl} {d : D} {v : V} (s : SR y lv c σ H) (r : Rp y.sx (regm y.G lv f) d v) : RelR y lv c σ H (rv f d) v := r.nrm
theorem e_non {j pos} : PE X (.Constant .none j pos) (tE ct cl sg W lv .non) := pe_non.conseq fun σ H Q ⟨y, c, s, h⟩ => by
  simp only [evE, Post] at h
  exact h y .non H Ext.refl s (val_ok s (by simp [Rp]))
theorem e_bl {b j pos} : PE X (.Constant (.bool b) j pos) (tE ct cl sg W lv (.bl b)) := pe_bl.conseq fun σ H Q ⟨y, c, s, h⟩ => by
  simp only [evE, Post] at h
  exact h y (.bl b) H Ext.refl s (val_ok s (by simp [Rp]))
theorem e_int {i j pos} : PE X (.Constant (.int i) j pos) (tE ct cl sg W lv (.int i)) := pe_int.conseq fun σ H Q ⟨y, c, s, h⟩ => by
  simp only [evE, Post] at h
  exact h y (.int i) H Ext.refl s (val_ok s (by simp [Rp]))
theorem e_str {x j pos} : PE X (.Constant (.str x) j pos) (tE ct cl sg W lv (.str x)) := pe_str.conseq fun σ H Q ⟨y, c, s, h⟩ => by
  simp only [evE, Post] at h
  exact h y (.str x) H Ext.refl s (val_ok s (by simp [Rp]))
theorem e_var {i : Nat} {x : Str} {pos : Pos} (hN : X.N[i]? = some x) (hv : Vis X.env.scope x) (hd : (x == ("__debug__" : Str)) = false) (hcd : (x == ("__classdict__" : Str)) = false) : PE X (.Name x pos) (tE ct cl sg W lv (.var i)) :=
  (pe_var hN hv hd hcd).conseq fun σ H Q ⟨y, c, s, h⟩ => by
    simp only [evE] at h
    split at h
    · rename_i f d hs
      obtain ⟨v, e, r⟩ := s.slots i _ hs
      exact ⟨v, getD_some.mp e, h y v H Ext.refl s r⟩
    · rename_i f d hs
      obtain ⟨p, e, r⟩ := s.slots i _ hs
      exact ⟨_, getD_some.mp e, h y _ H Ext.refl s (getD_some.mp e)⟩
    · exact h.elim

/-! ### operators -/
theorem mulOk_c {i j : Int} (h : mulOk i j = true) : CMulW i j := by
  simp only [mulOk, Bool.and_eq_true, decide_eq_true_eq] at h
  exact wide_mul h.1 h.2 (by decide) (by decide) (by decide)
theorem divOk_c {i j : Int} (h : divOk j = true) : CDivW i j := by
  simp only [divOk, Bool.and_eq_true, decide_eq_true_eq] at h
  exact wide_div h.1 h.2 (by decide) (by decide)
theorem divOk_p {j : Int} (h : divOk j = true) : 0 < j := by
  simp only [divOk, Bool.and_eq_true, decide_eq_true_eq] at h
  exact h.1
theorem powOk_c {i j : Int} (h : powOk i j = true) : CPow i j := by
  simp only [powOk, Bool.and_eq_true, decide_eq_true_eq] at h
  exact ⟨h.1.1, by omega, h.2⟩
def opE : Op2 → Operator
  | .add => .Add | .sub => .Sub | .mul => .Mult | .fdiv => .FloorDiv | .mod => .Mod | .pow => .Pow
def rBin (K : PySem.W.Frag) : Op2 → R2
  | .add => fun x y H Q => rI0 (fun i j => .int (i + j)) x y H Q ∨ rCat x y H Q ∨ rCatA K x y H Q
  | .sub => rI0 fun i j => .int (i - j)
  | .mul => fun x y H Q => rI CMulW (fun i j => .int (i * j)) x y H Q ∨ rRep x y H Q
  | .fdiv => rI CDivW fun i j => .int (i / j)
  | .mod => rI (fun _ j => 0 < j) fun i j => .int (i % j)
  | .pow => rI CPow fun i j => .int (i ^ j.toNat)
theorem rBin_ok : ∀ o, OpR X (binaryOp (opE o)) (rBin X.K o)
  | .add => op_add.or (op_cat.or op_catA)
  | .sub => op_sub
  | .mul => op_mulW.or op_rep
  | .fdiv => op_fdivW
  | .mod => op_mod
  | .pow => op_pow
theorem intV {y : Dy} {lv : Nat} {H : Hp} {f : Fl} {i : Int} {v : V} (h : Vw y lv H f (.int i) v) : v = .int i := by simpa only [Vw, Rp] using h
theorem blV {y : Dy} {lv : Nat} {H : Hp} {f : Fl} {i : Bool} {v : V} (h : Vw y lv H f (.bl i) v) : v = .bl i := by simpa only [Vw, Rp] using h
theorem nonV {y : Dy} {lv : Nat} {H : Hp} {f : Fl} {v : V} (h : Vw y lv H f .non v) : v = .non := by simpa only [Vw, Rp] using h
theorem strV {y : Dy} {lv : Nat} {H : Hp} {f : Fl} {i : Str} {v : V} (h : Vw y lv H f (.str i) v) : v = .str i := by simpa only [Vw, Rp] using h
theorem SZ_eq : SZ = sizeLine := by rw [sizeLine_eq]; rfl
/-- the data of an operation's outcome as it comes -/
theorem bin_go {K' : PySem.W.Frag} {o : Op2} {d e : D} {f g : Fl} {v w : V} {Q : VK} {K : R → C → Prop} (s : SR y lv c σ H) (hv : Vw y lv H f d v) (hw : Vw y lv H g e w)
    (h : Post (res lv (f.join g) (bin o d e) c) (XW ct lv y σ W) K) (k : ∀ r y' u H', K r c → Ext y lv y' → SR y' lv c σ H' → RelR y' lv c σ H' r u → Q u H') : rBin K' o v w H Q := by
  have int1 : ∀ {i : Int}, K (rv ((f.join g).join (.at lv)) (.int i)) c → Q (.int i) H := fun {i} q => k _ y _ H q Ext.refl s (val_ok s (by simp [Rp]))
  have lst1 : ∀ {xs : List D} {vs : List V} {p : Addr}, K (.new (f.join g) (.lst xs)) c → Rps y.sx (regm y.G lv (f.join g)) xs vs → H p = none → Q (.ref p) (upd H p (.lst vs)) := fun {xs vs p} q r hp => by
    obtain ⟨s', r'⟩ := s.newList hp r
    exact k _ y _ _ q Ext.refl s' r'
  cases o <;> cases d <;> first | exact h.elim | skip
  all_goals (cases e <;> first | exact h.elim | skip)
  · rw [intV hv, intV hw]; exact .inl ⟨_, _, rfl, rfl, int1 h⟩
  · rename_i xs ys
    simp only [bin] at h
    split at h
    · rename_i hz
      obtain ⟨a, vs, rfl, ha, ra⟩ := hv
      obtain ⟨b, ws, rfl, hb, rb⟩ := hw
      have ra' := Rps.mono (Pre.refl _) (regm_join_l (g := g) s.g) _ _ ra
      have rb' := Rps.mono (Pre.refl _) (regm_join_r (f := f) s.g) _ _ rb
      exact .inr (.inl ⟨a, b, vs, ws, rfl, rfl, ha, hb, by rw [ra.length, rb.length, ← SZ_eq]; exact hz, fun p hp => lst1 h (ra'.append rb') hp⟩)
    · exact h.elim
  · rename_i xs ys
    simp only [bin] at h
    split at h
    · rename_i hz
      obtain ⟨a, vs, rfl, ha, ra⟩ := hv
      obtain ⟨b, ws, rfl, hb, rb⟩ := hw
      have ra' := Rps.mono (Pre.refl _) (regm_join_l (g := g) s.g) _ _ ra
      have rb' := Rps.mono (Pre.refl _) (regm_join_r (f := f) s.g) _ _ rb
      have at_ : ∀ {p us ts}, TupAt y lv H p us → Rps y.sx (regm y.G lv (f.join g)) ts us → Rp y.sx (regm y.G lv ((f.join g).join (.at lv))) (.tup ts) (.ref p) := fun {p us ts} h1 h2 => by
        simp only [Rp]
        exact ⟨p, us, rfl, regm_tup h1.2, Rps.mono (Pre.refl _) (regm_join_l s.g) _ _ h2⟩
      refine .inr (.inr ⟨a, b, vs, ws, rfl, rfl, .of ha.1, .of hb.1, by rw [ra.length, rb.length, ← SZ_eq]; exact hz, fun e => ?_, fun _ e => ?_, fun _ _ p hp => ?_⟩)
      · have e2 : xs = [] := by cases xs with
          | nil => rfl
          | cons x r => have := ra.length; rw [e] at this; simp at this
        subst e2
        exact k _ y _ _ h Ext.refl s (val_ok s (at_ hb rb'))
      · have e2 : ys = [] := by cases ys with
          | nil => rfl
          | cons x r => have := rb.length; rw [e] at this; simp at this
        subst e2
        rw [List.append_nil] at h
        exact k _ y _ _ h Ext.refl s (val_ok s (at_ ha ra'))
      · obtain ⟨y2, x2, s2, r2⟩ := s.newTup hp (ra'.append rb')
        exact k _ y2 _ _ h x2 s2 (val_ok s2 r2)
    · exact h.elim
  · rw [intV hv, intV hw]; exact ⟨_, _, rfl, rfl, int1 h⟩
  · simp only [bin] at h
    split at h
    · rename_i hm
      rw [intV hv, intV hw]; exact .inl ⟨_, _, rfl, rfl, mulOk_c hm, int1 h⟩
    · exact h.elim
  · rename_i xs n
    simp only [bin] at h
    split at h
    · rename_i hz
      rw [Bool.and_eq_true, Bool.and_eq_true, rOk_iff, decide_eq_true_iff, decide_eq_true_iff] at hz
      obtain ⟨⟨h0, h1⟩, h2⟩ := hz
      obtain ⟨a, vs, rfl, ha, ra⟩ := hv
      have ra' := Rps.mono (Pre.refl _) (regm_join_l (g := g) s.g) _ _ ra
      rw [intV hw]
      have hs : (SZ : Int) = 16777216 := rfl
      exact .inr ⟨a, n, vs, rfl, rfl, ha, by omega, by omega, by rw [ra.length, ← SZ_eq]; exact h2, fun p hp => lst1 h (ra'.rep n.toNat) hp⟩
    · exact h.elim
  · simp only [bin] at h
    split at h
    · rename_i hm
      rw [intV hv, intV hw]; exact ⟨_, _, rfl, rfl, divOk_c hm, int1 h⟩
    · exact h.elim
  · simp only [bin] at h
    split at h
    · rename_i hm
      rw [intV hv, intV hw]; exact ⟨_, _, rfl, rfl, divOk_p hm, int1 h⟩
    · exact h.elim
  · simp only [bin] at h
    split at h
    · rename_i hm
      rw [intV hv, intV hw]; exact ⟨_, _, rfl, rfl, powOk_c hm, int1 h⟩
    · exact h.elim
theorem e_op2 {o : Op2} {a b : IE} {l r : Expr} {pos : Pos} (ha : PE X l (tE ct cl sg W lv a)) (hb : PE X r (tE ct cl sg W lv b)) : PE X (.BinOp l (opE o) r pos) (tE ct cl sg W lv (.op2 o a b)) :=
  (pe_op (rBin_ok o) ha hb).conseq fun σ H Q ⟨y, c, s, h⟩ => by
    simp only [evE] at h
    refine goO s h fun ra c1 y1 v H1 x1 s1 r1 q1 => ?_
    refine goO s1 (q1.imp (XW.ext x1) fun _ _ z => z) fun rb c2 y2 w H2 x2 s2 r2 q2 => ?_
    split at q2
    · rename_i f d g e h1 h2
      exact bin_go (ct := ct) (W := W) (K := fun r c' => ∀ y' v H', Ext y lv y' → SR y' lv c' σ H' → RelR y' lv c' σ H' r v → Q v H') s2 ((r1.ext x2 s1 s2).vw s2 h1) (r2.vw s2 h2) (q2.imp (XW.ext x2) fun _ _ z => z)
        fun r y' u H' k x s' r' => k y' u H' ((x1.trans x2).trans x) s' r'
    · exact q2.elim
end
end Sd

/-! Sd6: comparisons, tests. -/
namespace Sd
open PySem PySem.Spec PyProof.Rows L2

/-! ### equality -/
theorem toPys_map : ∀ ds : List D, toPys ds = ds.map toPy
  | [] => rfl
  | d :: ds => by simp only [toPys, List.map_cons, toPys_map ds]
mutual
theorem eqD_py : ∀ (x y : D) (n m : Nat), eqOk n x = true → eqOk m y = true → eqD x y = PyData.eqv (toPy x) (toPy y)
  | .non, y, _, m, _, h => by cases y <;> cases m <;> simp_all [eqD, toPy, PyData.eqv, eqOk]
  | .bl a, y, _, m, _, h => by cases y <;> cases m <;> simp_all [eqD, toPy, PyData.eqv, eqOk]
  | .int a, y, _, m, _, h => by cases y <;> cases m <;> simp_all [eqD, toPy, PyData.eqv, eqOk]
  | .str a, y, _, m, _, h => by cases y <;> cases m <;> simp_all [eqD, toPy, PyData.eqv, eqOk]
  | .lst xs, y, n, m, h, k => by
    cases n with
    | zero => simp [eqOk] at h
    | succ n =>
      cases y with
      | lst ys =>
        cases m with
        | zero => simp [eqOk] at k
        | succ m => simp only [eqD, toPy, PyData.eqv]; exact eqDs_py xs ys n m (by simpa [eqOk] using h) (by simpa [eqOk] using k)
      | _ => cases m <;> simp_all [eqD, toPy, PyData.eqv, eqOk]
  | .tup xs, y, n, m, h, k => by
    cases n with
    | zero => simp [eqOk] at h
    | succ n =>
      cases y with
      | tup ys =>
        cases m with
        | zero => simp [eqOk] at k
        | succ m => simp only [eqD, toPy, PyData.eqv]; exact eqDs_py xs ys n m (by simpa [eqOk] using h) (by simpa [eqOk] using k)
      | _ => cases m <;> simp_all [eqD, toPy, PyData.eqv, eqOk]
  | .dic a b, y, n, m, h, _ => by cases n <;> simp [eqOk] at h
  | .stm a, y, n, m, h, _ => by cases n <;> simp [eqOk] at h
  | .obj a, y, n, m, h, _ => by cases n <;> simp [eqOk] at h
theorem eqDs_py : ∀ (xs ys : List D) (n m : Nat), eqOks n xs = true → eqOks m ys = true → eqDs xs ys = PyData.eqvAll (toPys xs) (toPys ys)
  | [], [], _, _, _, _ => by simp [eqDs, toPys, PyData.eqvAll]
  | [], y :: ys, _, _, _, _ => by simp [eqDs, toPys, PyData.eqvAll]
  | x :: xs, [], _, _, _, _ => by simp [eqDs, toPys, PyData.eqvAll]
  | x :: xs, y :: ys, n, m, h, k => by
    simp only [eqOks, Bool.and_eq_true] at h k
    simp only [eqDs, toPys, PyData.eqvAll, eqD_py x y n m h.1 k.1, eqDs_py xs ys n m h.2 k.2]
end
mutual
theorem dp_of (K : PySem.W.Frag) {sx : List (Addr × Addr)} {H : Hp} : ∀ (d : D) (v : V) (n : Nat), eqOk n d = true → Rp sx H d v → Dp K H v (toPy d)
  | .non, v, _, _, h => by simp only [Rp] at h; subst h; exact .non
  | .bl b, v, _, _, h => by simp only [Rp] at h; subst h; exact .bl b
  | .int i, v, _, _, h => by simp only [Rp] at h; subst h; exact .int i
  | .str x, v, _, _, h => by simp only [Rp] at h; subst h; exact .str x
  | .lst xs, v, n, e, h => by
    simp only [Rp] at h
    obtain ⟨a, vs, rfl, h1, h2⟩ := h
    cases n with
    | zero => simp [eqOk] at e
    | succ n => exact .lst (.of h1) (dps_of K xs vs n (by simpa [eqOk] using e) h2)
  | .tup xs, v, n, e, h => by
    simp only [Rp] at h
    obtain ⟨a, vs, rfl, h1, h2⟩ := h
    cases n with
    | zero => simp [eqOk] at e
    | succ n => exact .tup (.of h1) (dps_of K xs vs n (by simpa [eqOk] using e) h2)
  | .dic a b, v, n, e, h => by cases n <;> simp [eqOk] at e
  | .stm g, v, n, e, h => by cases n <;> simp [eqOk] at e
  | .obj g, v, n, e, h => by cases n <;> simp [eqOk] at e
theorem dps_of (K : PySem.W.Frag) {sx : List (Addr × Addr)} {H : Hp} : ∀ (ds : List D) (vs : List V) (n : Nat), eqOks n ds = true → Rps sx H ds vs → DpAll K H vs (toPys ds)
  | [], vs, _, _, h => by simp only [Rps] at h; subst h; exact .nil
  | d :: ds, vs, n, e, h => by
    obtain ⟨v, r, rfl, h1, h2⟩ := h.inv
    simp only [eqOks, Bool.and_eq_true] at e
    exact .cons (dp_of K d v n e.1 h1) (dps_of K ds r n e.2 h2)
end
mutual
theorem lay_of : ∀ (d : D) (n : Nat), eqOk n d = true → PyData.canLay0 (toPy d) = true ∧ (toPy d).depth ≤ n
  | .non, _, _ => by simp [toPy, PyData.canLay0, PyData.depth]
  | .bl b, _, _ => by simp [toPy, PyData.canLay0, PyData.depth]
  | .int i, _, _ => by simp [toPy, PyData.canLay0, PyData.depth]
  | .str x, n, h => by cases n <;> (simp only [eqOk] at h; simp [toPy, PyData.canLay0, PyData.depth, h])
  | .lst xs, n, h => by
    cases n with
    | zero => simp [eqOk] at h
    | succ n =>
      have z := lays_of xs n (by simpa [eqOk] using h)
      simp only [toPy, PyData.canLay0, PyData.depth]
      exact ⟨z.1, by omega⟩
  | .tup xs, n, h => by
    cases n with
    | zero => simp [eqOk] at h
    | succ n =>
      have z := lays_of xs n (by simpa [eqOk] using h)
      simp only [toPy, PyData.canLay0, PyData.depth]
      exact ⟨z.1, by omega⟩
  | .dic a b, n, h => by cases n <;> simp [eqOk] at h
  | .stm a, n, h => by cases n <;> simp [eqOk] at h
  | .obj a, n, h => by cases n <;> simp [eqOk] at h
theorem lays_of : ∀ (ds : List D) (n : Nat), eqOks n ds = true → PyData.canLayAll0 (toPys ds) = true ∧ PyData.depthAll (toPys ds) ≤ n
  | [], _, _ => by simp [toPys, PyData.canLayAll0, PyData.depthAll]
  | d :: ds, n, h => by
    simp only [eqOks, Bool.and_eq_true] at h
    have a := lay_of d n h.1
    have b := lays_of ds n h.2
    simp only [toPys, PyData.canLayAll0, PyData.depthAll, a.1, b.1, Bool.and_self, true_and]
    omega
end
theorem shaped_of {d : D} (h : eqOk 60 d = true) : SeqAt.shaped (toPy d) = true := by
  have z := lay_of d 60 h
  simp only [SeqAt.shaped, z.1, Bool.true_and, decide_eq_true_eq]
  omega
theorem scalD_ok {d : D} {n : Nat} (h : eqOk n d = true) (s : scalD d = true) : True := trivial
theorem flat_of {sx : List (Addr × Addr)} {H : Hp} {d : D} {v : V} (s : scalD d = true) (h : Rp sx H d v) : flatV v = true := by
  cases d <;> first | (simp [scalD] at s; done) | (simp only [Rp] at h; subst h; rfl)
theorem eqV_of {sx : List (Addr × Addr)} {H : Hp} {d e : D} {v w : V} (s : scalD d = true) (t : scalD e = true) (h : Rp sx H d v) (k : Rp sx H e w) : eqV v w = eqD d e := by
  cases d <;> first | (simp [scalD] at s; done) | skip
  all_goals (cases e <;> first | (simp [scalD] at t; done) | skip)
  all_goals (simp only [Rp] at h k; subst h k; simp only [eqV, eqD])
theorem flats_of {sx : List (Addr × Addr)} {H : Hp} : ∀ {ds : List D} {vs : List V}, ds.all scalD = true → Rps sx H ds vs → vs.all flatV = true
  | [], _, _, h => by simp only [Rps] at h; subst h; rfl
  | d :: ds, _, s, h => by
    obtain ⟨v, r, rfl, h1, h2⟩ := h.inv
    simp only [List.all_cons, Bool.and_eq_true] at s
    simp only [List.all_cons, flat_of s.1 h1, flats_of s.2 h2, Bool.and_self]
theorem inV_of {sx : List (Addr × Addr)} {H : Hp} {x : D} {v : V} (sx' : scalD x = true) (hx : Rp sx H x v) : ∀ {ds : List D} {vs : List V}, ds.all scalD = true → Rps sx H ds vs → inV v vs = ds.any (eqD · x)
  | [], _, _, h => by simp only [Rps] at h; subst h; rfl
  | d :: ds, _, s, h => by
    obtain ⟨w, r, rfl, h1, h2⟩ := h.inv
    simp only [List.all_cons, Bool.and_eq_true] at s
    have ih := inV_of sx' hx s.2 h2
    simp only [inV] at ih ⊢
    simp only [List.any_cons, eqV_of s.1 sx' h1 hx, ih]
theorem anyPy {x : D} (hx : eqOk 60 x = true) : ∀ {ys : List D} {n : Nat}, eqOks n ys = true → ((toPys ys).any fun z => PyData.eqv z (toPy x)) = ys.any (eqD · x)
  | [], _, _ => rfl
  | y :: ys, n, h => by
    simp only [eqOks, Bool.and_eq_true] at h
    simp only [toPys, List.any_cons, anyPy hx h.2, eqD_py y x n 60 h.1 hx]

section
variable {X : Cx} {ct : Ct} {cl : Caller} {sg : Sig} {W : WX} {lv : Nat} {y : Dy} {c : C} {σ : L2.St} {H : Hp}
def cmE : Cm → CmpOp
  | .eq => .Eq | .ne => .NotEq | .lt => .Lt | .le => .LtE | .gt => .Gt | .ge => .GtE | .inn => .In | .nin => .NotIn
def rCmp (K : PySem.W.Frag) : Cm → R2
  | .eq => rEqD K
  | .ne => rNeD K
  | .lt => rI0 fun i j => .bl (decide (i < j))
  | .le => rI0 fun i j => .bl (decide (i ≤ j))
  | .gt => rI0 fun i j => .bl (decide (j < i))
  | .ge => rI0 fun i j => .bl (decide (j ≤ i))
  | .inn => fun x y H Q => rInD K x y H Q ∨ rIn K false x y H Q
  | .nin => fun x y H Q => rNotInD K x y H Q ∨ rIn K true x y H Q
theorem rCmp_ok {k : Nat} (hr : Room k X.A) : ∀ o, OpR X (compareOp (cmE o)) (rCmp X.K o)
  | .eq => op_eqD hr.units
  | .ne => op_neD hr.units
  | .lt => op_lt
  | .le => op_le
  | .gt => op_gt
  | .ge => op_ge
  | .inn => (op_inD (by have := hr.un; omega)).or op_in_seq
  | .nin => (op_notInD (by have := hr.un; omega)).or op_notIn_seq
theorem Vw.rps {y : Dy} {lv : Nat} {H : Hp} {f : Fl} {xs : List D} {vs : List V} (t : Sub (y.G lv) H) (h : Rps y.sx (regm y.G lv f) xs vs) : Rps y.sx H xs vs := Rps.mono (Pre.refl _) (regm_sub.trans t) _ _ h
theorem cmp_go {K : PySem.W.Frag} {o : Cm} {d e : D} {f g : Fl} {v w : V} {Q : VK} {k : Bool} (t : Sub (y.G lv) H) (hv : Vw y lv H f d v) (hw : Vw y lv H g e w) (h : cmpD o d e = some k) (q : Q (.bl k) H) : rCmp K o v w H Q := by
  have rv := hv.rp t
  have rw' := hw.rp t
  cases o with
  | eq =>
    simp only [cmpD] at h
    split at h
    · rename_i z
      simp only [Bool.and_eq_true] at z
      cases h
      rw [eqD_py d e 60 60 z.1 z.2] at q
      exact ⟨_, _, dp_of K d v 60 z.1 rv, dp_of K e w 60 z.2 rw', shaped_of z.1, shaped_of z.2, q⟩
    · cases h
  | ne =>
    simp only [cmpD] at h
    split at h
    · rename_i z
      simp only [Bool.and_eq_true] at z
      cases h
      rw [eqD_py d e 60 60 z.1 z.2] at q
      exact ⟨_, _, dp_of K d v 60 z.1 rv, dp_of K e w 60 z.2 rw', shaped_of z.1, shaped_of z.2, q⟩
    · cases h
  | lt =>
    cases d <;> first | (simp [cmpD] at h; done) | skip
    cases e <;> first | (simp [cmpD] at h; done) | skip
    simp only [cmpD, Option.some.injEq] at h
    subst h
    rw [intV hv, intV hw]; exact ⟨_, _, rfl, rfl, q⟩
  | le =>
    cases d <;> first | (simp [cmpD] at h; done) | skip
    cases e <;> first | (simp [cmpD] at h; done) | skip
    simp only [cmpD, Option.some.injEq] at h
    subst h
    rw [intV hv, intV hw]; exact ⟨_, _, rfl, rfl, q⟩
  | gt =>
    cases d <;> first | (simp [cmpD] at h; done) | skip
    cases e <;> first | (simp [cmpD] at h; done) | skip
    simp only [cmpD, Option.some.injEq] at h
    subst h
    rw [intV hv, intV hw]; exact ⟨_, _, rfl, rfl, q⟩
  | ge =>
    cases d <;> first | (simp [cmpD] at h; done) | skip
    cases e <;> first | (simp [cmpD] at h; done) | skip
    simp only [cmpD, Option.some.injEq] at h
    subst h
    rw [intV hv, intV hw]; exact ⟨_, _, rfl, rfl, q⟩
  | inn =>
    cases e <;> first | (simp [cmpD] at h; done) | skip
    · rename_i ys
      simp only [cmpD] at h
      split at h
      · rename_i z
        simp only [Bool.and_eq_true] at z
        cases h
        rw [← anyPy z.1 (n := 59) (by simpa [eqOk] using z.2)] at q
        exact .inl ⟨_, _, dp_of K d v 60 z.1 rv, dp_of K (.lst ys) w 60 z.2 rw', shaped_of z.1, shaped_of z.2, q⟩
      · cases h
    · rename_i ys
      simp only [cmpD] at h
      split at h
      · rename_i z
        simp only [Bool.and_eq_true] at z
        cases h
        obtain ⟨a, vs, rfl, ha, ra⟩ := hw
        have ra' := Vw.rps t ra
        rw [← inV_of z.1 rv z.2 ra'] at q
        exact .inr ⟨a, vs, rfl, .inr (.of ha.1), flat_of z.1 rv, flats_of z.2 ra', q⟩
      · cases h
  | nin =>
    cases e <;> first | (simp [cmpD] at h; done) | skip
    · rename_i ys
      simp only [cmpD] at h
      split at h
      · rename_i z
        simp only [Bool.and_eq_true] at z
        cases h
        rw [← anyPy z.1 (n := 59) (by simpa [eqOk] using z.2)] at q
        exact .inl ⟨_, _, dp_of K d v 60 z.1 rv, dp_of K (.lst ys) w 60 z.2 rw', shaped_of z.1, shaped_of z.2, q⟩
      · cases h
    · rename_i ys
      simp only [cmpD] at h
      split at h
      · rename_i z
        simp only [Bool.and_eq_true] at z
        cases h
        obtain ⟨a, vs, rfl, ha, ra⟩ := hw
        have ra' := Vw.rps t ra
        rw [← inV_of z.1 rv z.2 ra'] at q
        exact .inr ⟨a, vs, rfl, .inr (.of ha.1), flat_of z.1 rv, flats_of z.2 ra', q⟩
      · cases h
/-- a truth value handed back -/
theorem bl_ok {k : Bool} (s : SR y lv c σ H) : RelR y lv c σ H (rv Fl.top (.bl k)) (.bl k) := val_ok s (by simp [Rp])
theorem e_cmp {k : Nat} {o : Cm} {a b : IE} {l r : Expr} {pos : Pos} (hr : Room k X.A) (ha : PE X l (tE ct cl sg W lv a)) (hb : PE X r (tE ct cl sg W lv b)) (hm : behindInMarks (cmE o) r = false) :
    PE X (.Compare l [cmE o] [r] pos) (tE ct cl sg W lv (.cmp o a b)) :=
  (pe_cmpR (rCmp_ok hr o) ha hb hm).conseq fun σ H Q ⟨y, c, s, h⟩ => by
    simp only [evE] at h
    refine goO s h fun ra c1 y1 v H1 x1 s1 r1 q1 => ?_
    refine goO s1 (q1.imp (XW.ext x1) fun _ _ z => z) fun rb c2 y2 w H2 x2 s2 r2 q2 => ?_
    split at q2
    · rename_i f d g e h1 h2
      rw [Post.bind, Post.ofOpt] at q2
      obtain ⟨k, e1, q2⟩ := q2
      exact cmp_go s2.top ((r1.ext x2 s1 s2).vw s2 h1) (r2.vw s2 h2) e1 (q2 y2 (.bl k) H2 (x1.trans x2) s2 (bl_ok s2))
    · exact q2.elim
theorem e_neg {a : IE} {e : Expr} {pos : Pos} (ha : PE X e (tE ct cl sg W lv a)) : PE X (.UnaryOp .USub e pos) (tE ct cl sg W lv (.neg a)) :=
  (pe_un un_neg ha).conseq fun σ H Q ⟨y, c, s, h⟩ => by
    simp only [evE] at h
    refine goO s h fun ra c1 y1 v H1 x1 s1 r1 q1 => ?_
    split at q1
    · rename_i f i h1
      exact ⟨i, intV (r1.vw s1 h1), q1 y1 _ H1 x1 s1 (val_ok s1 (by simp [Rp]))⟩
    · exact q1.elim
def isNonD : D → Bool
  | .non => true
  | _ => false
theorem isnon {y : Dy} {lv : Nat} {H : Hp} {f : Fl} {d : D} {v : V} (h : Vw y lv H f d v) : decide (v = V.non) = isNonD d := by
  cases d with
  | non => have := nonV h; subst this; rfl
  | bl b => have := blV h; subst this; rfl
  | int b => have := intV h; subst this; rfl
  | str b => have := strV h; subst this; rfl
  | lst xs => obtain ⟨a, vs, rfl, _⟩ := h; rfl
  | tup xs => obtain ⟨a, vs, rfl, _⟩ := h; rfl
  | dic a b => simp only [Vw, Rp] at h
  | stm g => simp only [Vw, Rp] at h; obtain ⟨p, _, rfl⟩ := h; rfl
  | obj g => simp only [Vw, Rp] at h; subst h; rfl
theorem e_isN {a : IE} {e : Expr} {j pos pos'} (ha : PE X e (tE ct cl sg W lv a)) : PE X (.Compare e [.Is] [.Constant .none j pos'] pos) (tE ct cl sg W lv (.isN a)) :=
  (pe_cmp (pc_isN ha) (by rfl)).conseq fun σ H Q ⟨y, c, s, h⟩ => by
    simp only [evE] at h
    refine goO s h fun ra c1 y1 v H1 x1 s1 r1 q1 => ?_
    split at q1
    · rename_i f h1
      rw [isnon (r1.vw s1 h1)]; exact q1 y1 _ H1 x1 s1 (bl_ok s1)
    · rename_i f d hd h1
      rw [isnon (r1.vw s1 h1)]
      cases d <;> first | exact absurd rfl hd | exact q1 y1 _ H1 x1 s1 (bl_ok s1)
    · exact q1.elim
theorem e_notN {a : IE} {e : Expr} {j pos pos'} (ha : PE X e (tE ct cl sg W lv a)) : PE X (.Compare e [.IsNot] [.Constant .none j pos'] pos) (tE ct cl sg W lv (.notN a)) :=
  (pe_cmp (pc_notN ha) (by rfl)).conseq fun σ H Q ⟨y, c, s, h⟩ => by
    simp only [evE] at h
    refine goO s h fun ra c1 y1 v H1 x1 s1 r1 q1 => ?_
    split at q1
    · rename_i f h1
      rw [isnon (r1.vw s1 h1)]; exact q1 y1 _ H1 x1 s1 (bl_ok s1)
    · rename_i f d hd h1
      rw [isnon (r1.vw s1 h1)]
      cases d <;> first | exact absurd rfl hd | exact q1 y1 _ H1 x1 s1 (bl_ok s1)
    · exact q1.elim
theorem e_chn {k : Nat} {o o' : Cm} {a b d : IE} {l m r : Expr} {pos : Pos} (hr : Room k X.A) (ha : PE X l (tE ct cl sg W lv a)) (hb : PE X m (tE ct cl sg W lv b)) (hd : PE X r (tE ct cl sg W lv d)) (hm : lastMarks [cmE o, cmE o'] [m, r] = false) :
    PE X (.Compare l [cmE o, cmE o'] [m, r] pos) (tE ct cl sg W lv (.chn o o' a b d)) :=
  (pe_chain (rCmp_ok hr o) (rCmp_ok hr o') ha hb hd hm).conseq fun σ H Q ⟨y, c, s, h⟩ => by
    simp only [evE] at h
    refine goO s h fun ra c1 y1 v H1 x1 s1 r1 q1 => ?_
    refine goO s1 (q1.imp (XW.ext x1) fun _ _ z => z) fun rb c2 y2 w H2 x2 s2 r2 q2 => ?_
    split at q2
    · rename_i f x g z h1 h2
      rw [Post.bind, Post.ofOpt] at q2
      obtain ⟨k, e1, q2⟩ := q2
      refine cmp_go s2.top ((r1.ext x2 s1 s2).vw s2 h1) (r2.vw s2 h2) e1 ⟨k, rfl, ?_⟩
      cases k with
      | false =>
        rw [if_neg Bool.false_ne_true]
        exact q2 y2 (.bl false) H2 (x1.trans x2) s2 (bl_ok s2)
      | true =>
        rw [if_pos rfl]
        simp only [if_true] at q2
        refine goO s2 (q2.imp (XW.ext x2) fun _ _ z => z) fun rd c3 y3 u H3 x3 s3 r3 q3 => ?_
        split at q3
        · rename_i f' x' g' z' h3 h4
          rw [Post.bind, Post.ofOpt] at q3
          obtain ⟨k, e2, q3⟩ := q3
          exact cmp_go s3.top ((r2.ext x3 s2 s3).vw s3 h3) (r3.vw s3 h4) e2 (q3 y3 (.bl k) H3 ((x1.trans x2).trans x3) s3 (bl_ok s3))
        · exact q3.elim
    · exact q2.elim

/-! ### tests -/
theorem tru_of {K : PySem.W.Frag} {f : Fl} {d : D} {v : V} {k : Bool} (h : Vw y lv H f d v) (e : tru d = some k) : TruV K v H k := by
  cases d with
  | non => rw [nonV h]; simp only [tru, Option.some.injEq] at e; exact e.symm
  | bl b => rw [blV h]; simp only [tru, Option.some.injEq] at e; exact e.symm
  | int i => rw [intV h]; simp only [tru, Option.some.injEq] at e; exact e.symm
  | str x =>
    rw [strV h]
    simp only [tru] at e
    split at e
    · rename_i hz
      simp only [Option.some.injEq] at e
      refine ⟨by rw [← SZ_eq]; exact hz, ?_⟩
      rw [← e]
      cases hx : x.length with
      | zero => rfl
      | succ n => simp; omega
    · cases e
  | lst xs =>
    obtain ⟨a, vs, rfl, ha, ra⟩ := h
    simp only [tru, Option.some.injEq] at e
    refine .inl ⟨vs, .of ha, ?_⟩
    rw [← e]
    have := ra.length
    cases vs <;> cases xs <;> simp_all
  | tup xs =>
    obtain ⟨a, vs, rfl, ha, ra⟩ := h
    simp only [tru, Option.some.injEq] at e
    refine .inr (.inl ⟨vs, .of ha.1, ?_⟩)
    rw [← e]
    have := ra.length
    cases vs <;> cases xs <;> simp_all
  | dic a b => simp [tru] at e
  | stm g => simp [tru] at e
  | obj g => simp [tru] at e
/-- a test of any other kind: the value's truth -/
theorem t_val {a : IE} {e : Expr} (ha : PE X e (tE ct cl sg W lv a)) (he : ∀ whole, isTrue e X.env whole = (do let v ← whole; standAt e.pos; holding [v] (truthy v))) : PT X e (tT ct cl sg W lv a) :=
  (pt_truth ha he).conseq fun σ H Q ⟨y, c, s, h⟩ => by
    simp only [Out.t] at h
    refine goOB s h fun ra c1 y1 v H1 x1 s1 r1 q1 => ?_
    split at q1
    · rename_i f d h1
      rw [Post.ofOpt] at q1
      obtain ⟨k, e1, q1⟩ := q1
      exact ⟨k, tru_of (r1.vw s1 h1) e1, q1 y1 H1 x1 s1⟩
    · exact q1.elim
theorem t_of {a : IE} {e : Expr} {t : TT} (h : PT X e t) (i : ∀ y c σ H Q, SR y lv c σ H → Post ((evE cl sg lv a c).t lv) (XW ct lv y σ W) (fun k c' => ∀ y' H', Ext y lv y' → SR y' lv c' σ H' → Q k H') → t σ H Q) : PT X e (tT ct cl sg W lv a) :=
  h.conseq fun σ H Q ⟨y, c, s, h⟩ => i y c σ H Q s h
/-- what the truth of an outcome is -/
theorem t_bl {o : Out Bool} {P : Exn → C → Prop} {K : Bool → C → Prop} : Post ((o.bind fun k c => .ok (rv Fl.top (.bl k)) c : Out R).t lv) P K = Post o P K := by
  cases o <;> rfl
theorem t_bind {α : Type} {o : Out α} {f : α → C → Out R} : (o.bind f).t lv = o.bind fun a c => (f a c).t lv := by
  cases o <;> rfl
/-- a step into an operand, within a test -/
theorem goOT {a : IE} {Q : VK} {F : R → C → Out R} {K : Bool → C → Prop} (s : SR y lv c σ H) (h : Post ((((evE cl sg lv a c).o lv).bind F).t lv) (XW ct lv y σ W) K)
    (k : ∀ r c' y' v H', Ext y lv y' → SR y' lv c' σ H' → RelO y' lv σ r v → Post ((F r c').t lv) (XW ct lv y σ W) K → Q v H') : tE ct cl sg W lv a σ H Q := by
  have e : Post ((((evE cl sg lv a c).o lv).bind F).t lv) (XW ct lv y σ W) K = Post ((evE cl sg lv a c).o lv) (XW ct lv y σ W) fun r c' => Post ((F r c').t lv) (XW ct lv y σ W) K := by
    simp only [Out.t, Post.bind]
    cases (evE cl sg lv a c).o lv <;> rfl
  rw [e] at h
  exact toO s (h.imp (fun _ _ z => z) fun r c' q y' v H' x s' rr => k r c' y' v H' x s' rr q)
/-- a comparison as a test -/
theorem t_cmp {k : Nat} {o : Cm} {a b : IE} {l r : Expr} {pos : Pos} (hr : Room k X.A) (ha : PE X l (tE ct cl sg W lv a)) (hb : PE X r (tE ct cl sg W lv b)) (hm : behindInMarks (cmE o) r = false) :
    PT X (.Compare l [cmE o] [r] pos) (tT ct cl sg W lv (.cmp o a b)) :=
  t_of (pt_cmpR (rCmp_ok hr o) ha hb hm) fun y c σ H Q s h => by
    simp only [evE] at h
    refine goOT s h fun ra c1 y1 v H1 x1 s1 r1 q1 => ?_
    refine goOT s1 (q1.imp (XW.ext x1) fun _ _ z => z) fun rb c2 y2 w H2 x2 s2 r2 q2 => ?_
    split at q2
    · rename_i f d g e h1 h2
      rw [t_bl, Post.ofOpt] at q2
      obtain ⟨k, e1, q2⟩ := q2
      exact cmp_go s2.top ((r1.ext x2 s1 s2).vw s2 h1) (r2.vw s2 h2) e1 ⟨k, rfl, q2 y2 H2 (x1.trans x2) s2⟩
    · exact q2.elim
theorem t_isN {a : IE} {e : Expr} {j pos pos'} (ha : PE X e (tE ct cl sg W lv a)) : PT X (.Compare e [.Is] [.Constant .none j pos'] pos) (tT ct cl sg W lv (.isN a)) :=
  t_of (pt_cmp (pc_isN ha) (by rfl)) fun y c σ H Q s h => by
    simp only [evE] at h
    refine goOT s h fun ra c1 y1 v H1 x1 s1 r1 q1 => ?_
    split at q1
    · rename_i f h1
      exact ⟨_, rfl, by rw [isnon (r1.vw s1 h1)]; exact q1 y1 H1 x1 s1⟩
    · rename_i f d hd h1
      refine ⟨_, rfl, ?_⟩
      rw [isnon (r1.vw s1 h1)]
      cases d <;> first | exact absurd rfl hd | exact q1 y1 H1 x1 s1
    · exact q1.elim
theorem t_notN {a : IE} {e : Expr} {j pos pos'} (ha : PE X e (tE ct cl sg W lv a)) : PT X (.Compare e [.IsNot] [.Constant .none j pos'] pos) (tT ct cl sg W lv (.notN a)) :=
  t_of (pt_cmp (pc_notN ha) (by rfl)) fun y c σ H Q s h => by
    simp only [evE] at h
    refine goOT s h fun ra c1 y1 v H1 x1 s1 r1 q1 => ?_
    split at q1
    · rename_i f h1
      exact ⟨_, rfl, by rw [isnon (r1.vw s1 h1)]; exact q1 y1 H1 x1 s1⟩
    · rename_i f d hd h1
      refine ⟨_, rfl, ?_⟩
      rw [isnon (r1.vw s1 h1)]
      cases d <;> first | exact absurd rfl hd | exact q1 y1 H1 x1 s1
    · exact q1.elim
theorem t_chn {k : Nat} {o o' : Cm} {a b d : IE} {l m r : Expr} {pos : Pos} (hr : Room k X.A) (ha : PE X l (tE ct cl sg W lv a)) (hb : PE X m (tE ct cl sg W lv b)) (hd : PE X r (tE ct cl sg W lv d)) (hm : lastMarks [cmE o, cmE o'] [m, r] = false) :
    PT X (.Compare l [cmE o, cmE o'] [m, r] pos) (tT ct cl sg W lv (.chn o o' a b d)) :=
  t_of (pt_chain (rCmp_ok hr o) (rCmp_ok hr o') ha hb hd hm) fun y c σ H Q s h => by
    simp only [evE] at h
    refine goOT s h fun ra c1 y1 v H1 x1 s1 r1 q1 => ?_
    refine goOT s1 (q1.imp (XW.ext x1) fun _ _ z => z) fun rb c2 y2 w H2 x2 s2 r2 q2 => ?_
    split at q2
    · rename_i f x g z h1 h2
      rw [t_bind, Post.bind, Post.ofOpt] at q2
      obtain ⟨k, e1, q2⟩ := q2
      refine cmp_go s2.top ((r1.ext x2 s1 s2).vw s2 h1) (r2.vw s2 h2) e1 ⟨k, rfl, ?_⟩
      cases k with
      | false =>
        rw [if_neg Bool.false_ne_true]
        exact ⟨false, rfl, q2 y2 H2 (x1.trans x2) s2⟩
      | true =>
        rw [if_pos rfl]
        rw [if_pos rfl] at q2
        refine goOT s2 (q2.imp (XW.ext x2) fun _ _ z => z) fun rd c3 y3 u H3 x3 s3 r3 q3 => ?_
        split at q3
        · rename_i f' x' g' z' h3 h4
          rw [t_bl, Post.ofOpt] at q3
          obtain ⟨k, e2, q3⟩ := q3
          exact cmp_go s3.top ((r2.ext x3 s2 s3).vw s3 h3) (r3.vw s3 h4) e2 ⟨k, rfl, q3 y3 H3 ((x1.trans x2).trans x3) s3⟩
        · exact q3.elim
    · exact q2.elim

/-! ### and, or, not, if -/
theorem e_and1 {a : IE} {e : Expr} {op pos} (ha : PE X e (tE ct cl sg W lv a)) : PE X (.BoolOp op [e] pos) (tE ct cl sg W lv a) := pe_one ha
theorem e_and {a b : IE} {e e' : Expr} {es : List Expr} {pos : Pos} (ha : PE X e (tE ct cl sg W lv a)) (hb : PE X (.BoolOp .And (e' :: es) pos) (tE ct cl sg W lv b)) : PE X (.BoolOp .And (e :: e' :: es) pos) (tE ct cl sg W lv (.and a b)) :=
  (pe_and ha hb).conseq fun σ H Q ⟨y, c, s, h⟩ => by
    simp only [evE] at h
    refine goO s h fun ra c1 y1 v H1 x1 s1 r1 q1 => ?_
    split at q1
    · rename_i f h1
      exact ⟨true, blV (r1.vw s1 h1), ⟨y1, c1, s1, (q1.imp (XW.ext x1) fun _ _ z => KE x1 z)⟩⟩
    · rename_i f h1
      exact ⟨false, blV (r1.vw s1 h1), q1 y1 _ H1 x1 s1 (bl_ok s1)⟩
    · exact q1.elim
theorem e_or {a b : IE} {e e' : Expr} {es : List Expr} {pos : Pos} (ha : PE X e (tE ct cl sg W lv a)) (hb : PE X (.BoolOp .Or (e' :: es) pos) (tE ct cl sg W lv b)) : PE X (.BoolOp .Or (e :: e' :: es) pos) (tE ct cl sg W lv (.or a b)) :=
  (pe_or ha hb).conseq fun σ H Q ⟨y, c, s, h⟩ => by
    simp only [evE] at h
    refine goO s h fun ra c1 y1 v H1 x1 s1 r1 q1 => ?_
    split at q1
    · rename_i f h1
      exact ⟨false, blV (r1.vw s1 h1), ⟨y1, c1, s1, (q1.imp (XW.ext x1) fun _ _ z => KE x1 z)⟩⟩
    · rename_i f h1
      exact ⟨true, blV (r1.vw s1 h1), q1 y1 _ H1 x1 s1 (bl_ok s1)⟩
    · exact q1.elim
/-- a test ahead -/
theorem toT {a : IE} {Q : Bool → Hp → Prop} {β : Type} {F : Bool → C → Out β} {K : β → C → Prop} (s : SR y lv c σ H) (h : Post (((evE cl sg lv a c).t lv).bind F) (XW ct lv y σ W) K)
    (k : ∀ b c' y' H', Ext y lv y' → SR y' lv c' σ H' → Post (F b c') (XW ct lv y σ W) K → Q b H') : tT ct cl sg W lv a σ H Q := by
  rw [Post.bind] at h
  exact ⟨y, c, s, h.imp (fun _ _ z => z) fun b c' q y' H' x s' => k b c' y' H' x s' q⟩
theorem e_not {a : IE} {e : Expr} {pos : Pos} (ha : PE X e (tE ct cl sg W lv a)) : PE X (.UnaryOp .Not e pos) (tE ct cl sg W lv (.not a)) :=
  (pe_notT ha).conseq fun σ H Q ⟨y, c, s, h⟩ => by
    simp only [evE, Out.t] at h
    rw [Post.bind] at h
    refine goOB s h fun ra c1 y1 v H1 x1 s1 r1 q1 => ?_
    split at q1
    · rename_i f d h1
      rw [Post.ofOpt] at q1
      obtain ⟨k, e1, q1⟩ := q1
      exact ⟨k, tru_of (r1.vw s1 h1) e1, q1 y1 _ H1 x1 s1 (bl_ok s1)⟩
    · exact q1.elim
theorem t_not {a : IE} {e : Expr} {pos : Pos} (ha : PT X e (tT ct cl sg W lv a)) : PT X (.UnaryOp .Not e pos) (tT ct cl sg W lv (.not a)) :=
  t_of (pt_not ha) fun y c σ H Q s h => by
    simp only [evE] at h
    rw [t_bind, Post.bind] at h
    exact ⟨y, c, s, h.imp (fun _ _ z => z) fun k c1 q1 y1 H1 x1 s1 => q1 y1 H1 x1 s1⟩
end
end Sd

/-! Sd7: and, or, if; sequences of expressions; displays, subscripts, slices. -/
namespace Sd
open PySem PySem.Spec PyProof.Rows L2
section
variable {X : Cx} {ct : Ct} {cl : Caller} {sg : Sig} {W : WX} {lv : Nat} {y : Dy} {c : C} {σ : L2.St} {H : Hp}
theorem t_and {a b : IE} {e e' : Expr} {es : List Expr} {pos : Pos} (ha : PT X e (tT ct cl sg W lv a)) (hb : PW X (.BoolOp .And (e' :: es) pos) (tT ct cl sg W lv b)) : PW X (.BoolOp .And (e :: e' :: es) pos) (tT ct cl sg W lv (.and a b)) :=
  (pw_and ha hb).conseq fun σ H Q ⟨y, c, s, h⟩ => by
    simp only [evE] at h
    rw [t_bind, Post.bind] at h
    refine ⟨y, c, s, ?_⟩
    rw [show (evE cl sg lv a c).t lv = ((evE cl sg lv a c).o lv).bind fun r c => match look c r with
      | some (_, d) => ofOpt (tru d) c
      | none => .stuck from rfl, Post.bind]
    refine h.imp (fun _ _ z => z) fun ra c1 q1 => ?_
    cases e1 : look c1 ra with
    | none => rw [e1] at q1; exact q1.elim
    | some p =>
      obtain ⟨f, d⟩ := p
      rw [e1] at q1
      cases d with
      | bl k =>
        cases k with
        | true => exact fun y1 H1 x1 s1 => ⟨y1, c1, s1, q1.imp (XW.ext x1) fun k c2 z y2 H2 x2 s2 => z y2 H2 (x1.trans x2) s2⟩
        | false => exact fun y1 H1 x1 s1 => q1 y1 H1 x1 s1
      | _ => exact q1.elim
theorem t_or {a b : IE} {e e' : Expr} {es : List Expr} {pos : Pos} (ha : PT X e (tT ct cl sg W lv a)) (hb : PW X (.BoolOp .Or (e' :: es) pos) (tT ct cl sg W lv b)) : PW X (.BoolOp .Or (e :: e' :: es) pos) (tT ct cl sg W lv (.or a b)) :=
  (pw_or ha hb).conseq fun σ H Q ⟨y, c, s, h⟩ => by
    simp only [evE] at h
    rw [t_bind, Post.bind] at h
    refine ⟨y, c, s, ?_⟩
    rw [show (evE cl sg lv a c).t lv = ((evE cl sg lv a c).o lv).bind fun r c => match look c r with
      | some (_, d) => ofOpt (tru d) c
      | none => .stuck from rfl, Post.bind]
    refine h.imp (fun _ _ z => z) fun ra c1 q1 => ?_
    cases e1 : look c1 ra with
    | none => rw [e1] at q1; exact q1.elim
    | some p =>
      obtain ⟨f, d⟩ := p
      rw [e1] at q1
      cases d with
      | bl k =>
        cases k with
        | false => exact fun y1 H1 x1 s1 => ⟨y1, c1, s1, q1.imp (XW.ext x1) fun k c2 z y2 H2 x2 s2 => z y2 H2 (x1.trans x2) s2⟩
        | true => exact fun y1 H1 x1 s1 => q1 y1 H1 x1 s1
      | _ => exact q1.elim
theorem e_ite {t a b : IE} {e1 e2 e3 : Expr} {pos : Pos} (ht : PT X e1 (tT ct cl sg W lv t)) (ha : PE X e2 (tE ct cl sg W lv a)) (hb : PE X e3 (tE ct cl sg W lv b)) : PE X (.IfExp e1 e2 e3 pos) (tE ct cl sg W lv (.ite t a b)) :=
  (pe_ifExp ht ha hb).conseq fun σ H Q ⟨y, c, s, h⟩ => by
    simp only [evE] at h
    refine toT s h fun k c1 y1 H1 x1 s1 q1 => ?_
    cases k with
    | true => rw [if_pos rfl] at q1 ⊢; exact ⟨y1, c1, s1, q1.imp (XW.ext x1) fun _ _ z => KE x1 z⟩
    | false => rw [if_neg Bool.false_ne_true] at q1 ⊢; exact ⟨y1, c1, s1, q1.imp (XW.ext x1) fun _ _ z => KE x1 z⟩
def tIfT (t ta tb : TT) : TT := fun σ H Q => t σ H fun c H1 => if c = true then ta σ H1 Q else tb σ H1 Q
theorem pt_ifExp {c a b : Expr} {pos : Pos} {tc ta tb : TT} (hc : PT X c tc) (ha : PT X a ta) (hb : PT X b tb) : PT X (.IfExp c a b pos) (tIfT tc ta tb) := by
  refine ⟨fun pins s σ H Q I h => ?_⟩
  refine isTrue_IfExp (thn (hc.run pins s σ H _ I h) fun d s1 ⟨H1, I1, q1⟩ => ?_)
  cases d with
  | true => exact ha.run pins s1 σ H1 Q I1 q1
  | false => exact hb.run pins s1 σ H1 Q I1 q1
theorem t_ite {t a b : IE} {e1 e2 e3 : Expr} {pos : Pos} (ht : PT X e1 (tT ct cl sg W lv t)) (ha : PT X e2 (tT ct cl sg W lv a)) (hb : PT X e3 (tT ct cl sg W lv b)) : PT X (.IfExp e1 e2 e3 pos) (tT ct cl sg W lv (.ite t a b)) :=
  t_of (pt_ifExp ht ha hb) fun y c σ H Q s h => by
    simp only [evE] at h
    rw [t_bind] at h
    refine toT s h fun k c1 y1 H1 x1 s1 q1 => ?_
    cases k with
    | true => rw [if_pos rfl] at q1 ⊢; exact ⟨y1, c1, s1, q1.imp (XW.ext x1) fun k c2 z y2 H2 x2 s2 => z y2 H2 (x1.trans x2) s2⟩
    | false => rw [if_neg Bool.false_ne_true] at q1 ⊢; exact ⟨y1, c1, s1, q1.imp (XW.ext x1) fun k c2 z y2 H2 x2 s2 => z y2 H2 (x1.trans x2) s2⟩

/-! ### several expressions -/
theorem notStar {e : Expr} {es : List Expr} {env : Env} (h : isStar e = false) : starEach (e :: es) env = (false, eval e env) :: starEach es env := by
  cases e <;> first | rfl | (simp [isStar] at h)
theorem noStar {es : List Expr} {env : Env} {pos : Pos} (h : es.any isStar = false) : (backTo pos (starEach es env)).any (·.1) = false := by
  induction es with
  | nil => rfl
  | cons e es ih =>
    simp only [List.any_cons, Bool.or_eq_false_iff] at h
    rw [notStar h.1]
    show ((false, _) :: backTo pos (starEach es env)).any (·.1) = false
    rw [List.any_cons, ih h.2]; rfl
theorem a_nilO : PA X [] (tAo ct cl sg W lv []) := pa_nil.conseq fun σ H Q ⟨y, c, s, h⟩ => by
  simp only [evA] at h
  exact h y [] H Ext.refl s .nil
theorem a_consO {a : IE} {as : List IE} {e : Expr} {es : List Expr} (ha : PE X e (tE ct cl sg W lv a)) (hr : PA X es (tAo ct cl sg W lv as)) (hs : isStar e = false) : PA X (e :: es) (tAo ct cl sg W lv (a :: as)) :=
  (pa_cons ha hr (notStar hs)).conseq fun σ H Q ⟨y, c, s, h⟩ => by
    simp only [evA] at h
    refine goOB s h fun ra c1 y1 v H1 x1 s1 r1 q1 => ?_
    rw [Post.bind] at q1
    exact ⟨y1, c1, s1, q1.imp (XW.ext x1) fun rs c2 q2 y2 vs H2 x2 s2 r2 => q2 y2 (v :: vs) H2 (x1.trans x2) s2 (.cons (r1.ext x2 s1 s2) r2)⟩
theorem a_nilF : PA X [] (tAf ct cl sg W lv []) := pa_nil.conseq fun σ H Q ⟨y, c, s, h⟩ => by
  simp only [evF] at h
  exact h y [] H Ext.refl s Rps.nil
theorem a_consF {a : IE} {as : List IE} {e : Expr} {es : List Expr} (ha : PE X e (tE ct cl sg W lv a)) (hr : PA X es (tAf ct cl sg W lv as)) (hs : isStar e = false) : PA X (e :: es) (tAf ct cl sg W lv (a :: as)) :=
  (pa_cons ha hr (notStar hs)).conseq fun σ H Q ⟨y, c, s, h⟩ => by
    simp only [evF] at h
    refine goZ s h fun fd c1 y1 v H1 x1 s1 r1 q1 => ?_
    rw [Post.bind] at q1
    refine ⟨y1, c1, s1, q1.imp (XW.ext x1) fun gs c2 q2 y2 vs H2 x2 s2 r2 => q2 y2 (v :: vs) H2 (x1.trans x2) s2 ?_⟩
    exact .cons (Rp.mono (Pre.refl _) (regm_join_l s2.g) _ _ (Rp.ext x2 s1 s2 r1).nrm) (Rps.mono (Pre.refl _) (regm_join_r s2.g) _ _ r2)
theorem a_nilS : PA X [] (tAs ct cl sg W lv []) := pa_nil.conseq fun σ H Q ⟨y, c, s, h⟩ => by
  simp only [evS] at h
  exact h y [] H Ext.refl s Rps.nil
theorem evS_cons {a : IE} {as : List IE} {c : C} (h : ∀ b, a ≠ .star b) : evS cl sg lv (a :: as) c = ((evE cl sg lv a c).z lv).bind fun (f, d) c => (evS cl sg lv as c).bind fun (g, ds) c => .ok ((nrm d f).join g, d :: ds) c := by
  cases a <;> first | exact absurd rfl (h _) | (simp only [evS])
theorem a_consS {a : IE} {as : List IE} {e : Expr} {es : List Expr} (hn : ∀ b, a ≠ .star b) (ha : PE X e (tE ct cl sg W lv a)) (hr : PA X es (tAs ct cl sg W lv as)) (hs : isStar e = false) : PA X (e :: es) (tAs ct cl sg W lv (a :: as)) :=
  (pa_cons ha hr (notStar hs)).conseq fun σ H Q ⟨y, c, s, h⟩ => by
    rw [evS_cons hn] at h
    refine goZ s h fun fd c1 y1 v H1 x1 s1 r1 q1 => ?_
    rw [Post.bind] at q1
    refine ⟨y1, c1, s1, q1.imp (XW.ext x1) fun gs c2 q2 y2 vs H2 x2 s2 r2 => q2 y2 (v :: vs) H2 (x1.trans x2) s2 ?_⟩
    exact .cons (Rp.mono (Pre.refl _) (regm_join_l s2.g) _ _ (Rp.ext x2 s1 s2 r1).nrm) (Rps.mono (Pre.refl _) (regm_join_r s2.g) _ _ r2)
theorem a_starS {a : IE} {as : List IE} {e : Expr} {es : List Expr} {p : Pos} (ha : PE X e (tE ct cl sg W lv a)) (hr : PA X es (tAs ct cl sg W lv as)) : PA X (.Starred e p :: es) (tAs ct cl sg W lv (.star a :: as)) :=
  (StX.pa_star ha hr rfl).conseq fun σ H Q ⟨y, c, s, h⟩ => by
    simp only [evS] at h
    refine goOB s h fun ra c1 y1 v H1 x1 s1 r1 q1 => ?_
    split at q1
    · rename_i f d h1
      have vw := r1.vw s1 h1
      have fin : ∀ {xs : List D} {vs : List V} {p : Addr}, v = .ref p → (SqT X.K H1 p vs ∨ SqL X.K H1 p vs) → Rps y1.sx (regm y1.G lv f) xs vs →
          Post ((evS cl sg lv as c1).bind fun (g, ds) c => .ok (f.join g, xs ++ ds) c) (XW ct lv y σ W) (fun fd c' => ∀ y' vs H', Ext y lv y' → SR y' lv c' σ H' → Rps y'.sx (regm y'.G lv fd.1) fd.2 vs → Q vs H') →
          ∃ p xs, v = V.ref p ∧ (SqT X.K H1 p xs ∨ SqL X.K H1 p xs) ∧ tAs ct cl sg W lv as σ H1 fun ys H2 => Q (xs ++ ys) H2 := fun {xs vs p} e sq rp q => by
        rw [Post.bind] at q
        refine ⟨p, vs, e, sq, y1, c1, s1, q.imp (XW.ext x1) fun gs c2 q2 y2 ws H2 x2 s2 r2 => q2 y2 (vs ++ ws) H2 (x1.trans x2) s2 ?_⟩
        exact (Rps.mono (Pre.refl _) (regm_join_l s2.g) _ _ (Rps.ext x2 s1 s2 rp)).append (Rps.mono (Pre.refl _) (regm_join_r s2.g) _ _ r2)
      cases d with
      | lst xs =>
        obtain ⟨p, vs, e, hp, rp⟩ := vw
        exact fin e (.inr (.of hp)) rp q1
      | tup xs =>
        obtain ⟨p, vs, e, hp, rp⟩ := vw
        exact fin e (.inl (.of hp.1)) rp q1
      | _ => exact q1.elim
    · exact q1.elim

/-! ### displays, subscripts, slices -/
theorem e_lst {as : List IE} {es : List Expr} {pos : Pos} (ha : PA X es (tAs ct cl sg W lv as)) : PE X (.List es pos) (tE ct cl sg W lv (.lst as)) :=
  (pe_lst ha).conseq fun σ H Q ⟨y, c, s, h⟩ => by
    simp only [evE] at h
    rw [Post.bind] at h
    refine ⟨y, c, s, h.imp (fun _ _ z => z) fun fd c1 q1 y1 vs H1 x1 s1 r1 => ?_⟩
    split at q1
    · rename_i hz
      refine ⟨by rw [r1.length, ← SZ_eq]; exact hz, fun p hp => ?_⟩
      obtain ⟨s', r'⟩ := s1.newList hp r1
      exact q1 y1 _ _ x1 s' r'
    · exact q1.elim
theorem e_tup {as : List IE} {es : List Expr} {k : Nat} {pos : Pos} (ha : PA X es (tAf ct cl sg W lv as)) : PE X (.Tuple es k pos) (tE ct cl sg W lv (.tup as)) :=
  (pe_tup ha).conseq fun σ H Q ⟨y, c, s, h⟩ => by
    simp only [evE] at h
    rw [Post.bind] at h
    refine ⟨y, c, s, h.imp (fun _ _ z => z) fun fd c1 q1 y1 vs H1 x1 s1 r1 => ?_⟩
    split at q1
    · rename_i hz
      refine ⟨by rw [r1.length, ← SZ_eq]; exact hz, fun p hp => ?_⟩
      obtain ⟨y2, x2, s2, r2⟩ := s1.newTup hp r1
      exact q1 y2 _ _ (x1.trans x2) s2 (val_ok s2 r2)
    · exact q1.elim
theorem atD_get {xs : List D} {i : Int} {d : D} {vs : List V} {sx : List (Addr × Addr)} {G : Hp} (h : Rps sx G xs vs) (e : atD xs i = some d) : ∃ v, atI vs i = some v ∧ Rp sx G d v := by
  unfold atD atI at e
  cases hn : ixN xs.length i with
  | none => rw [hn] at e; cases e
  | some j =>
    rw [hn] at e
    obtain ⟨v, h1, h2⟩ := h.get e
    refine ⟨v, ?_, h2⟩
    unfold atI
    rw [h.length, hn]; exact h1
theorem e_ix {a i : IE} {l r : Expr} {pos : Pos} (ha : PE X l (tE ct cl sg W lv a)) (hi : PE X r (tE ct cl sg W lv i)) (hs : PlainIx r) : PE X (.Subscript l r pos) (tE ct cl sg W lv (.ix a i)) :=
  (pe_ix ix_seq ha hi hs).conseq fun σ H Q ⟨y, c, s, h⟩ => by
    simp only [evE] at h
    refine goO s h fun ra c1 y1 v H1 x1 s1 r1 q1 => ?_
    refine goO s1 (q1.imp (XW.ext x1) fun _ _ z => z) fun rb c2 y2 w H2 x2 s2 r2 q2 => ?_
    split at q2
    · rename_i f d g e h1 h2
      rw [Post.bind, Post.ofOpt] at q2
      obtain ⟨z, e1, q2⟩ := q2
      have va := (r1.ext x2 s1 s2).vw s2 h1
      have vb := r2.vw s2 h2
      cases d <;> first | (simp [ixD] at e1; done) | skip
      all_goals (cases e <;> first | (simp [ixD] at e1; done) | skip)
      all_goals
        simp only [ixD] at e1
        obtain ⟨p, vs, rfl, hp, rp⟩ := va
        obtain ⟨u, hu, ru⟩ := atD_get rp e1
        rw [intV vb]
      · exact .inl ⟨p, vs, _, u, rfl, rfl, .of hp, hu, q2 y2 u H2 (x1.trans x2) s2 (val_ok s2 ru)⟩
      · exact .inr (.inl ⟨p, vs, _, u, rfl, rfl, .of hp.1, hu, q2 y2 u H2 (x1.trans x2) s2 (val_ok s2 ru)⟩)
    · exact q2.elim
/-- a slice's parts -/
def tP (ct : Ct) (cl : Caller) (sg : Sig) (W : WX) (lv : Nat) (as : List IE) : TO := fun σ H Q => ∃ y c, SR y lv c σ H ∧ Post (evP cl sg lv as c) (XW ct lv y σ W) fun o c' => ∀ y' H', Ext y lv y' → SR y' lv c' σ H' → Q o H'
theorem p_none : PO X none (tP ct cl sg W lv []) := ⟨fun pins s σ H Q I ⟨y, c, sr, h⟩ => po_none.run pins s σ H Q I (by simp only [evP] at h; exact h y H Ext.refl sr)⟩
theorem p_some {a : IE} {e : Expr} (ha : PE X e (tE ct cl sg W lv a)) : PO X (some e) (tP ct cl sg W lv [a]) := ⟨fun pins s σ H Q I ⟨y, c, sr, h⟩ => (po_some ha).run pins s σ H Q I (by
  simp only [evP] at h
  refine goOB sr h fun ra c1 y1 v H1 x1 s1 r1 q1 => ?_
  split at q1
  · rename_i f i h1
    exact ⟨i, intV (r1.vw s1 h1), q1 y1 H1 x1 s1⟩
  · exact q1.elim)⟩
theorem toP {as : List IE} {Q : Option Int → Hp → Prop} {β : Type} {F : Option Int → C → Out β} {K : β → C → Prop} (s : SR y lv c σ H) (h : Post ((evP cl sg lv as c).bind F) (XW ct lv y σ W) K)
    (k : ∀ o c' y' H', Ext y lv y' → SR y' lv c' σ H' → Post (F o c') (XW ct lv y σ W) K → Q o H') : tP ct cl sg W lv as σ H Q := by
  rw [Post.bind] at h
  exact ⟨y, c, s, h.imp (fun _ _ z => z) fun o c' q y' H' x s' => k o c' y' H' x s' q⟩
theorem e_slc {a : IE} {lo hi : List IE} {l : Expr} {el eh : Option Expr} {p2 pos : Pos} (ha : PE X l (tE ct cl sg W lv a)) (hl : PO X el (tP ct cl sg W lv lo)) (hh : PO X eh (tP ct cl sg W lv hi)) : PE X (.Subscript l (.Slice el eh none p2) pos) (tE ct cl sg W lv (.slc a lo hi)) :=
  (pe_slice (sl_list.or sl_tupA) ha hl hh).conseq fun σ H Q ⟨y, c, s, h⟩ => by
    simp only [evE] at h
    refine goO s h fun ra c1 y1 v H1 x1 s1 r1 q1 => ?_
    refine toP s1 (q1.imp (XW.ext x1) fun _ _ z => z) fun o c2 y2 H2 x2 s2 q2 => ?_
    refine toP s2 (q2.imp (XW.ext x2) fun _ _ z => z) fun o' c3 y3 H3 x3 s3 q3 => ?_
    split at q3
    · rename_i f xs h1
      obtain ⟨p, vs, rfl, hp, rp⟩ := ((r1.ext x2 s1 s2).ext x3 s2 s3).vw s3 h1
      refine .inl ⟨p, vs, rfl, .of hp, fun n hn => ?_⟩
      have hl := rp.length
      have e : cutV vs o o' = (vs.drop (HT.sIx xs.length 0 o)).take (HT.sIx xs.length xs.length o' - HT.sIx xs.length 0 o) := by unfold cutV; rw [hl]
      obtain ⟨s', r'⟩ := s3.newList hn (f := f) (xs := cutD xs o o') (vs := cutV vs o o') (by rw [e]; exact (rp.drop _).take _)
      exact q3 y3 _ _ ((x1.trans x2).trans x3) s' r'
    · rename_i f xs h1
      obtain ⟨p, vs, rfl, hp, rp⟩ := ((r1.ext x2 s1 s2).ext x3 s2 s3).vw s3 h1
      have hl := rp.length
      have e : cutV vs o o' = (vs.drop (HT.sIx xs.length 0 o)).take (HT.sIx xs.length xs.length o' - HT.sIx xs.length 0 o) := by unfold cutV; rw [hl]
      have rc : Rps y3.sx (regm y3.G lv f) (cutD xs o o') (cutV vs o o') := by rw [e]; exact (rp.drop _).take _
      refine .inr ⟨p, vs, rfl, .of hp.1, fun hw => ?_, fun _ n hn => ?_⟩
      · have ew : cutD xs o o' = xs := by
          unfold cutD
          rw [hl] at hw
          rw [hw.1, hw.2, List.drop_zero, Nat.sub_zero, List.take_length]
        rw [ew] at q3
        refine q3 y3 _ _ ((x1.trans x2).trans x3) s3 (val_ok s3 ?_)
        simp only [Rp]
        exact ⟨p, vs, rfl, regm_tup hp.2, Rps.mono (Pre.refl _) (regm_join_l s3.g) _ _ rp⟩
      · obtain ⟨y4, x4, s4, r4⟩ := s3.newTup hn rc
        exact q3 y4 _ _ (((x1.trans x2).trans x3).trans x4) s4 (val_ok s4 r4)
    · exact q3.elim
theorem e_rev {a : IE} {l : Expr} {k : Nat} {p1 p2 p3 pos : Pos} (ha : PE X l (tE ct cl sg W lv a)) : PE X (.Subscript l (.Slice none none (some (.UnaryOp .USub (.Constant (.int 1) k p1) p2)) p3) pos) (tE ct cl sg W lv (.rev a)) :=
  (pe_revL ha).conseq fun σ H Q ⟨y, c, s, h⟩ => by
    simp only [evE] at h
    refine goO s h fun ra c1 y1 v H1 x1 s1 r1 q1 => ?_
    split at q1
    · rename_i f xs h1
      obtain ⟨p, vs, rfl, hp, rp⟩ := r1.vw s1 h1
      refine ⟨p, vs, rfl, .of hp, fun n hn => ?_⟩
      obtain ⟨s', r'⟩ := s1.newList hn rp.reverse
      exact q1 y1 _ _ x1 s' r'
    · exact q1.elim
end
end Sd

/-! Sd7b: the text of a list, of a tuple. -/
namespace Sd
open PySem PySem.Spec PyProof.Rows L2
theorem int_short {i : Int} (h : i.natAbs < 10 ^ 12) : i.natAbs.log2 < 40 := by
  by_cases h0 : i.natAbs = 0
  · rw [h0]; decide
  · exact (Nat.log2_lt h0).mpr (Nat.lt_trans h (by decide))
theorem strOk_lt {x : Str} (h : PyData.strOk x = true) : (x.cps.toList.all fun c => decide (c < 16 ^ 8)) = true := by
  unfold PyData.strOk at h
  rw [Array.all_eq_true'] at h
  rw [List.all_eq_true]
  intro c hc
  have := h c (by simpa using hc)
  simp only [decide_eq_true_eq] at this ⊢
  omega
mutual
theorem rpOk_all : ∀ (d : D) (n : Nat), rpOk n d = true → eqOk n d = true ∧ (toPy d).showable = true ∧ PyData.leavesShort 13 (toPy d) = true ∧ (toPy d).hasDict = false ∧ (toPy d).weight ≤ wgt d
  | .non, n, h => by cases n <;> simp [eqOk, toPy, PyData.showable, PyData.leavesShort, PyData.hasDict, PyData.weight]
  | .bl b, n, h => by cases n <;> simp [eqOk, toPy, PyData.showable, PyData.leavesShort, PyData.hasDict, PyData.weight]
  | .int i, n, h => by
    have h : i.natAbs < 10 ^ 12 := by cases n <;> simpa [rpOk] using h
    have e := int_short h
    refine ⟨by cases n <;> simp [eqOk], ?_, ?_, rfl, ?_⟩
    · simp only [toPy, PyData.showable, decide_eq_true_eq]; omega
    · simp only [toPy, PyData.leavesShort, decide_eq_true_eq]; exact PyData.shown_int_le h
    · simp only [toPy, PyData.weight, wgt]
      split <;> omega
  | .str x, n, h => by
    have h : PyData.strOk x = true := by cases n <;> (unfold rpOk at h; exact h)
    refine ⟨by cases n <;> (unfold eqOk; exact h), rfl, ?_, rfl, ?_⟩
    · simp only [toPy, PyData.leavesShort]; exact strOk_lt h
    · simp only [toPy, PyData.weight, wgt]; exact Nat.le_refl _
  | .lst xs, n, h => by
    cases n with
    | zero => simp [rpOk] at h
    | succ n =>
      obtain ⟨a, b, c, d, e⟩ := rpOks_all xs n (by simpa only [rpOk] using h)
      exact ⟨by simpa only [eqOk] using a, by simpa only [toPy, PyData.showable] using b, by simpa only [toPy, PyData.leavesShort] using c, by simpa only [toPy, PyData.hasDict] using d, by simpa only [toPy, PyData.weight, wgt] using e⟩
  | .tup xs, n, h => by
    cases n with
    | zero => simp [rpOk] at h
    | succ n =>
      obtain ⟨a, b, c, d, e⟩ := rpOks_all xs n (by simpa only [rpOk] using h)
      exact ⟨by simpa only [eqOk] using a, by simpa only [toPy, PyData.showable] using b, by simpa only [toPy, PyData.leavesShort] using c, by simpa only [toPy, PyData.hasDict] using d, by simpa only [toPy, PyData.weight, wgt] using e⟩
  | .dic _ _, n, h => by cases n <;> simp [rpOk] at h
  | .stm _, n, h => by cases n <;> simp [rpOk] at h
  | .obj _, n, h => by cases n <;> simp [rpOk] at h
theorem rpOks_all : ∀ (ds : List D) (n : Nat), rpOks n ds = true → eqOks n ds = true ∧ PyData.showableAll (toPys ds) = true ∧ PyData.leavesShortAll 13 (toPys ds) = true ∧ PyData.hasDictAll (toPys ds) = false ∧ PyData.weightAll (toPys ds) ≤ wgts ds
  | [], n, h => by simp [eqOks, toPys, PyData.showableAll, PyData.leavesShortAll, PyData.hasDictAll, PyData.weightAll, wgts]
  | d :: ds, n, h => by
    simp only [rpOks, Bool.and_eq_true] at h
    obtain ⟨a1, b1, c1, d1, e1⟩ := rpOk_all d n h.1
    obtain ⟨a2, b2, c2, d2, e2⟩ := rpOks_all ds n h.2
    refine ⟨by simp only [eqOks, a1, a2, Bool.and_self], by simp only [toPys, PyData.showableAll, b1, b2, Bool.and_self], by simp only [toPys, PyData.leavesShortAll, c1, c2, Bool.and_self], by simp only [toPys, PyData.hasDictAll, d1, d2, Bool.or_self], ?_⟩
    simp only [toPys, PyData.weightAll, wgts]; omega
end
/-- repr(x) of lists and tuples -/
def rRepr (K : PySem.W.Frag) : List V → Hp → VK → Prop := fun xs H Q => ∃ a d, xs = [.ref a] ∧ Dp K H (.ref a) d ∧ d.showable = true ∧ d.hasDict = false ∧ d.depth ≤ 60 ∧ d.shown.length ≤ sizeLine ∧ Q (.str d.shown) H
theorem cr_repr {X : Cx} {k : Nat} (hr : RoomG k X.A) : CallR X (.builtin "repr") (rRepr X.K) := by
  intro pins s σ H xs us Q I r ⟨a, d, e, hd, h1, h2, h3, h4, q⟩
  subst e
  cases r with
  | cons r0 r1 =>
    cases r1
    obtain ⟨as, rd⟩ := Dp.reads I d _ _ hd r0
    have hu := hr.r.un
    cases r0
    refine repr_of_reads' rd h1 (PyData.noDict_hsm h2) hr.g (by omega) (fun _ _ z => z) (fun h' u tk hk => ?_) h4
    exact ⟨.str d.shown, H, I.kept hk, ⟨u, rfl⟩, q⟩
theorem repr_ok {K : PySem.W.Frag} {sx : List (Addr × Addr)} {H : Hp} {d : D} {a : Addr} {Q : VK} (h : rpFit d = true) (r : Rp sx H d (.ref a)) (q : Q (.str (toPy d).shown) H) : rRepr K [.ref a] H Q := by
  simp only [rpFit, Bool.and_eq_true, decide_eq_true_eq] at h
  obtain ⟨a1, b1, c1, d1, e1⟩ := rpOk_all d 60 h.1
  exact ⟨a, toPy d, rfl, dp_of K d _ 60 a1 r, b1, d1, (lay_of d 60 a1).2, PyData.shown_fits (B := 13) (by decide) (by decide) c1 (by omega), q⟩
end Sd

/-! Sd8: built-ins, isinstance, list(range(..)), methods of lists. -/
namespace Sd
open PySem PySem.Spec PyProof.Rows L2
section
variable {X : Cx} {ct : Ct} {cl : Caller} {sg : Sig} {W : WX} {lv : Nat} {y : Dy} {c : C} {σ : L2.St} {H : Hp}
/-- several operands, seen -/
theorem looks_vw {rs : List R} {vs : List V} {f : Fl} {ds : List D} (s : SR y lv c σ H) (h : Paired (RelO y lv σ) rs vs) (e : looks c rs = some (f, ds)) :
    vs.length = ds.length ∧ ∀ (i : Nat) d v, ds[i]? = some d → vs[i]? = some v → Vw y lv H f d v := by
  induction h generalizing f ds with
  | nil => simp only [looks, Option.some.injEq, Prod.mk.injEq] at e; obtain ⟨_, rfl⟩ := e; exact ⟨rfl, fun i d v h => by simp at h⟩
  | @cons r v rs vs h hs ih =>
    simp only [looks] at e
    split at e
    · rename_i f1 d1 g1 ds1 e1 e2
      cases e
      obtain ⟨l, q⟩ := ih e2
      have up : ∀ {f g : Fl} {d : D} {v : V}, Sub (regm y.G lv f) (regm y.G lv g) → Vw y lv H f d v → Vw y lv H g d v := fun {f g d v} u k => by
        cases d with
        | lst xs => obtain ⟨a, ws, e, h1, h2⟩ := k; exact ⟨a, ws, e, h1, Rps.mono (Pre.refl _) u _ _ h2⟩
        | tup xs => obtain ⟨a, ws, e, h1, h2⟩ := k; exact ⟨a, ws, e, h1, Rps.mono (Pre.refl _) u _ _ h2⟩
        | _ => exact k
      refine ⟨by simp [l], fun i d w hd hw => ?_⟩
      cases i with
      | zero => simp at hd hw; subst hd; subst hw; exact up (regm_join_l s.g) (h.vw s e1)
      | succ i => exact up (regm_join_r s.g) (q i d w (by simpa using hd) (by simpa using hw))
    · cases e
def btN : Bt → Str
  | .abs => "abs" | .len => "len" | .list => "list" | .tuple => "tuple" | .sum => "sum" | .max => "max" | .min => "min" | .all => "all" | .any => "any" | .sorted => "sorted" | .int => "int" | .repr => "repr" | .dict => "dict"
def btV : Bt → Value
  | .abs => .builtin "abs" | .len => .builtin "len" | .list => .type "list" | .tuple => .type "tuple" | .sum => .builtin "sum" | .max => .builtin "max" | .min => .builtin "min" | .all => .builtin "all" | .any => .builtin "any"
  | .sorted => .builtin "sorted" | .int => .type "int" | .repr => .builtin "repr" | .dict => .type "dict"
def rBlt (K : PySem.W.Frag) : Bt → List V → Hp → VK → Prop
  | .abs => fun xs H Q => ∃ i, xs = [.int i] ∧ Q (.int (if i < 0 then -i else i)) H
  | .len => fun xs H Q => ∃ p ys, xs = [.ref p] ∧ (SqL K H p ys ∨ SqT K H p ys) ∧ Q (.int ys.length) H
  | .list => fun xs H Q => ∃ p ys, xs = [.ref p] ∧ (SqL K H p ys ∨ SqT K H p ys) ∧ ∀ l, H l = none → Q (.ref l) (upd H l (.lst ys))
  | .tuple => fun xs H Q => ∃ p ys, xs = [.ref p] ∧ ((SqL K H p ys ∧ ∀ l, H l = none → Q (.ref l) (upd H l (.tup ys))) ∨ (SqT K H p ys ∧ Q (.ref p) H))
  | .sum => rSum K
  | .max => fun xs H Q => rMax K xs H Q ∨ ∃ i j, xs = [.int i, .int j] ∧ Q (.int (if j > i then j else i)) H
  | .min => fun xs H Q => rMin K xs H Q ∨ ∃ i j, xs = [.int i, .int j] ∧ Q (.int (if j < i then j else i)) H
  | .all => rAll K
  | .any => rAny K
  | .sorted => rSortedI K
  | .int => fun xs H Q => (∃ i, xs = [.int i] ∧ Q (.int i) H) ∨ ∃ k, xs = [.bl k] ∧ Q (.int (if k then 1 else 0)) H
  | .repr => rRepr K
  | .dict => fun _ _ _ => False
theorem rBlt_ok {k : Nat} (hc : X.calm = true) (hr : RoomG k X.A) : ∀ b, CallR X (btV b) (rBlt X.K b)
  | .abs => call_abs
  | .len => call_len_seq
  | .list => call_list_of
  | .tuple => call_tuple_of
  | .sum => cr_sum hc
  | .max => (cr_max hc).or (call_max2 hc)
  | .min => (cr_min hc).or (call_min2 hc)
  | .all => cr_all hc
  | .any => cr_any hc
  | .sorted => cr_sortedI
  | .int => call_int1
  | .repr => cr_repr hr
  | .dict => fun _ _ _ _ _ _ _ _ _ h => h.elim
theorem boot_btV : ∀ b, bootBuiltins (btN b) = some (btV b) := by
  intro b; cases b <;> (with_unfolding_all decide +kernel)
theorem maxI_ge (xs : List Int) : ∀ m : Int, m ≤ xs.foldl (fun m y => if y > m then y else m) m ∧ (∀ y ∈ xs, y ≤ xs.foldl (fun m y => if y > m then y else m) m) ∧ (xs.foldl (fun m y => if y > m then y else m) m = m ∨ xs.foldl (fun m y => if y > m then y else m) m ∈ xs) := by
  induction xs with
  | nil => intro m; simp
  | cons x xs ih =>
    intro m
    simp only [List.foldl_cons]
    obtain ⟨h1, h2, h3⟩ := ih (if x > m then x else m)
    have g1 : m ≤ (if x > m then x else m) ∧ x ≤ (if x > m then x else m) := by split <;> omega
    refine ⟨Int.le_trans g1.1 h1, fun y hy => ?_, ?_⟩
    · rcases List.mem_cons.mp hy with rfl | hy
      · exact Int.le_trans g1.2 h1
      · exact h2 y hy
    · rcases h3 with h3 | h3
      · rw [h3]; split
        · exact .inr List.mem_cons_self
        · exact .inl rfl
      · exact .inr (List.mem_cons_of_mem _ h3)
theorem minI_le (xs : List Int) : ∀ m : Int, xs.foldl (fun m y => if y < m then y else m) m ≤ m ∧ (∀ y ∈ xs, xs.foldl (fun m y => if y < m then y else m) m ≤ y) ∧ (xs.foldl (fun m y => if y < m then y else m) m = m ∨ xs.foldl (fun m y => if y < m then y else m) m ∈ xs) := by
  induction xs with
  | nil => intro m; simp
  | cons x xs ih =>
    intro m
    simp only [List.foldl_cons]
    obtain ⟨h1, h2, h3⟩ := ih (if x < m then x else m)
    have g1 : (if x < m then x else m) ≤ m ∧ (if x < m then x else m) ≤ x := by split <;> omega
    refine ⟨Int.le_trans h1 g1.1, fun y hy => ?_, ?_⟩
    · rcases List.mem_cons.mp hy with rfl | hy
      · exact Int.le_trans h1 g1.2
      · exact h2 y hy
    · rcases h3 with h3 | h3
      · rw [h3]; split
        · exact .inr List.mem_cons_self
        · exact .inl rfl
      · exact .inr (List.mem_cons_of_mem _ h3)
theorem maxI_is {n m : Int} {ns : List Int} (h1 : m ∈ n :: ns) (h2 : ∀ y ∈ n :: ns, y ≤ m) : m = maxI (n :: ns) := by
  obtain ⟨a, b, e⟩ := maxI_ge ns n
  have h3 := h2 (maxI (n :: ns)) (by
    rcases e with e | e
    · exact List.mem_cons.mpr (.inl e)
    · exact List.mem_cons_of_mem _ e)
  have h4 : m ≤ maxI (n :: ns) := by
    rcases List.mem_cons.mp h1 with rfl | h1
    · exact a
    · exact b m h1
  omega
theorem minI_is {n m : Int} {ns : List Int} (h1 : m ∈ n :: ns) (h2 : ∀ y ∈ n :: ns, m ≤ y) : m = minI (n :: ns) := by
  obtain ⟨a, b, e⟩ := minI_le ns n
  have h3 := h2 (minI (n :: ns)) (by
    rcases e with e | e
    · exact List.mem_cons.mpr (.inl e)
    · exact List.mem_cons_of_mem _ e)
  have h4 : minI (n :: ns) ≤ m := by
    rcases List.mem_cons.mp h1 with rfl | h1
    · exact a
    · exact b m h1
  omega
theorem insI_perm (x : Int) : ∀ l : List Int, (insI x l).Perm (x :: l)
  | [] => .refl _
  | y :: r => by
    simp only [insI]
    split
    · exact .refl _
    · exact ((insI_perm x r).cons y).trans (.swap x y r)
theorem sortI_perm : ∀ l : List Int, (sortI l).Perm l
  | [] => .refl _
  | x :: r => (insI_perm x _).trans ((sortI_perm r).cons x)
theorem insI_sorted (x : Int) : ∀ l : List Int, l.Pairwise (· ≤ ·) → (insI x l).Pairwise (· ≤ ·)
  | [], _ => by simp [insI]
  | y :: r, h => by
    obtain ⟨h1, h2⟩ := List.pairwise_cons.mp h
    simp only [insI]
    split
    · rename_i hx
      refine List.pairwise_cons.mpr ⟨fun z hz => ?_, h⟩
      rcases List.mem_cons.mp hz with rfl | hz
      · exact hx
      · exact Int.le_trans hx (h1 z hz)
    · rename_i hx
      refine List.pairwise_cons.mpr ⟨fun z hz => ?_, insI_sorted x r h2⟩
      rcases List.mem_cons.mp ((insI_perm x r).mem_iff.mp hz) with rfl | hz
      · omega
      · exact h1 z hz
theorem sortI_sorted : ∀ l : List Int, (sortI l).Pairwise (· ≤ ·)
  | [] => .nil
  | x :: r => insI_sorted x _ (sortI_sorted r)
theorem sorted_eq {a b : List Int} (p : a.Perm b) (ha : a.Pairwise (· ≤ ·)) (hb : b.Pairwise (· ≤ ·)) : a = b := p.eq_of_pairwise (le := (· ≤ ·)) (fun _ _ _ _ h1 h2 => Int.le_antisymm h1 h2) ha hb
theorem Vw.ints {f : Fl} {xs : List D} {ns : List Int} {v : V} (h : Vw y lv H f (.lst xs) v) (e : intsOf xs = some ns) : ∃ a, v = .ref a ∧ H a = some (.lst (ns.map V.int)) := by
  obtain ⟨a, vs, rfl, h1, h2⟩ := h
  have := intsOf_inv e
  subst this
  rw [h2.ints_inv] at h1
  exact ⟨a, rfl, h1⟩
theorem Vw.bls {f : Fl} {xs : List D} {ns : List Bool} {v : V} (h : Vw y lv H f (.lst xs) v) (e : blsOf xs = some ns) : ∃ a, v = .ref a ∧ H a = some (.lst (ns.map V.bl)) := by
  obtain ⟨a, vs, rfl, h1, h2⟩ := h
  have := blsOf_inv e
  subst this
  rw [h2.bls_inv] at h1
  exact ⟨a, rfl, h1⟩
/-- what a built-in makes of the data -/
theorem blt_go {K' : PySem.W.Frag} {b : Bt} {f : Fl} {ds : List D} {vs : List V} {Q : VK} {K : R → C → Prop} {W' : Exn → C → Prop} (s : SR y lv c σ H) (hl : vs.length = ds.length) (hv : ∀ (i : Nat) d v, ds[i]? = some d → vs[i]? = some v → Vw y lv H f d v)
    (h : Post (res lv f (bltD b ds) c) W' K) (k : ∀ r y' u H', K r c → Ext y lv y' → SR y' lv c σ H' → RelR y' lv c σ H' r u → Q u H') : rBlt K' b vs H Q := by
  have val1 : ∀ {d : D} {v : V} {g : Fl}, K (rv g d) c → imm d = true → Rp y.sx (regm y.G lv Fl.top) d v → Q v H := fun {d v g} q i r => k _ y v H q Ext.refl s (by
    unfold rv nrm; rw [if_pos i]; exact r)
  have lst1 : ∀ {xs : List D} {vs : List V} {p : Addr}, K (.new f (.lst xs)) c → Rps y.sx (regm y.G lv f) xs vs → H p = none → Q (.ref p) (upd H p (.lst vs)) := fun {xs vs p} q r hp => by
    obtain ⟨s', r'⟩ := s.newList hp r
    exact k _ y _ _ q Ext.refl s' r'
  have one : ∀ {d : D}, ds = [d] → ∃ v, vs = [v] ∧ Vw y lv H f d v := fun {d} e => by
    subst e
    match vs, hl with
    | [v], _ => exact ⟨v, rfl, hv 0 d v rfl rfl⟩
  have two : ∀ {d e : D}, ds = [d, e] → ∃ v w, vs = [v, w] ∧ Vw y lv H f d v ∧ Vw y lv H f e w := fun {d e} z => by
    subst z
    match vs, hl with
    | [v, w], _ => exact ⟨v, w, rfl, hv 0 d v rfl rfl, hv 1 e w rfl rfl⟩
  have int0 : ∀ {i : Int}, Rp y.sx (regm y.G lv Fl.top) (.int i) (.int i) := by simp [Rp]
  have bl0 : ∀ {i : Bool}, Rp y.sx (regm y.G lv Fl.top) (.bl i) (.bl i) := by simp [Rp]
  unfold bltD at h
  split at h <;> first | exact h.elim | skip
  · obtain ⟨v, rfl, q⟩ := one rfl
    exact ⟨_, by rw [intV q], val1 h rfl int0⟩
  · obtain ⟨v, rfl, a, ws, rfl, h1, h2⟩ := one rfl
    exact ⟨a, ws, rfl, .inl (.of h1), by rw [h2.length]; exact val1 h rfl int0⟩
  · obtain ⟨v, rfl, a, ws, rfl, h1, h2⟩ := one rfl
    exact ⟨a, ws, rfl, .inr (.of h1.1), by rw [h2.length]; exact val1 h rfl int0⟩
  · obtain ⟨v, rfl, a, ws, rfl, h1, h2⟩ := one rfl
    exact ⟨a, ws, rfl, .inl (.of h1), fun l hl => lst1 h h2 hl⟩
  · obtain ⟨v, rfl, a, ws, rfl, h1, h2⟩ := one rfl
    exact ⟨a, ws, rfl, .inr (.of h1.1), fun l hl => lst1 h h2 hl⟩
  · obtain ⟨v, rfl, a, ws, rfl, h1, h2⟩ := one rfl
    refine ⟨a, ws, rfl, .inl ⟨.of h1, fun l hl => ?_⟩⟩
    obtain ⟨y2, x2, s2, r2⟩ := s.newTup hl h2
    exact k _ y2 _ _ h x2 s2 (val_ok s2 r2)
  · rename_i xs
    obtain ⟨v, rfl, a, ws, rfl, h1, h2⟩ := one rfl
    refine ⟨a, ws, rfl, .inr ⟨.of h1.1, k _ y _ _ h Ext.refl s (val_ok s ?_)⟩⟩
    simp only [Rp]
    exact ⟨a, ws, rfl, regm_tup h1.2, Rps.mono (Pre.refl _) (regm_join_l s.g) _ _ h2⟩
  · obtain ⟨v, rfl, q⟩ := one rfl
    rename_i xs
    cases e : intsOf xs with
    | none => rw [e] at h; exact h.elim
    | some ns =>
      rw [e] at h
      obtain ⟨a, rfl, h1⟩ := q.ints e
      exact ⟨a, ns, rfl, .of h1, val1 h rfl int0⟩
  · obtain ⟨v, rfl, q⟩ := one rfl
    rename_i xs
    split at h
    · rename_i n ns e
      obtain ⟨a, rfl, h1⟩ := q.ints e
      exact .inl ⟨a, n :: ns, rfl, .of h1, by simp, fun m h3 h4 => by rw [maxI_is h3 h4]; exact val1 h rfl int0⟩
    · exact h.elim
  · obtain ⟨v, rfl, q⟩ := one rfl
    rename_i xs
    split at h
    · rename_i n ns e
      obtain ⟨a, rfl, h1⟩ := q.ints e
      exact .inl ⟨a, n :: ns, rfl, .of h1, by simp, fun m h3 h4 => by rw [minI_is h3 h4]; exact val1 h rfl int0⟩
    · exact h.elim
  · obtain ⟨v, w, rfl, q1, q2⟩ := two rfl
    exact .inr ⟨_, _, by rw [intV q1, intV q2], val1 h rfl int0⟩
  · obtain ⟨v, w, rfl, q1, q2⟩ := two rfl
    exact .inr ⟨_, _, by rw [intV q1, intV q2], val1 h rfl int0⟩
  · obtain ⟨v, rfl, q⟩ := one rfl
    rename_i xs
    cases e : blsOf xs with
    | none => rw [e] at h; exact h.elim
    | some ns =>
      rw [e] at h
      obtain ⟨a, rfl, h1⟩ := q.bls e
      exact ⟨a, ns, rfl, .of h1, val1 h rfl bl0⟩
  · obtain ⟨v, rfl, q⟩ := one rfl
    rename_i xs
    cases e : blsOf xs with
    | none => rw [e] at h; exact h.elim
    | some ns =>
      rw [e] at h
      obtain ⟨a, rfl, h1⟩ := q.bls e
      exact ⟨a, ns, rfl, .of h1, val1 h rfl bl0⟩
  · obtain ⟨v, rfl, q⟩ := one rfl
    rename_i xs
    cases e : intsOf xs with
    | none => rw [e] at h; exact h.elim
    | some ns =>
      rw [e] at h
      obtain ⟨a, rfl, h1⟩ := q.ints e
      refine ⟨a, ns, rfl, .of h1, fun ns' p pm srt hp => ?_⟩
      rw [sorted_eq (pm.trans (sortI_perm ns).symm) srt (sortI_sorted ns)]
      exact lst1 h (Rps.ints _) hp
  · obtain ⟨v, rfl, q⟩ := one rfl
    split at h
    · rename_i hf
      have q' := q.rp s.top
      obtain ⟨a, ws, rfl, h1, h2⟩ := q
      exact repr_ok hf q' (val1 h rfl (by simp [Rp]))
    · exact h.elim
  · obtain ⟨v, rfl, q⟩ := one rfl
    split at h
    · rename_i hf
      have q' := q.rp s.top
      obtain ⟨a, ws, rfl, h1, h2⟩ := q
      exact repr_ok hf q' (val1 h rfl (by simp [Rp]))
    · exact h.elim
  · obtain ⟨v, rfl, q⟩ := one rfl
    exact .inl ⟨_, by rw [intV q], val1 h rfl int0⟩
  · obtain ⟨v, rfl, q⟩ := one rfl
    exact .inr ⟨_, by rw [blV q], val1 h rfl int0⟩
end
end Sd

/-! Sd9: built-ins, isinstance, list(range(..)), methods of lists: the expressions. -/
namespace Sd
open PySem PySem.Spec PyProof.Rows L2
section
variable {X : Cx} {ct : Ct} {cl : Caller} {sg : Sig} {W : WX} {lv : Nat} {y : Dy} {c : C} {σ : L2.St} {H : Hp}
theorem e_blt {k : Nat} {b : Bt} {as : List IE} {e : Expr} {es : List Expr} {p pos : Pos} (hc : X.calm = true) (hr : RoomG k X.A) (hg : Gl X (btN b)) (hm : X.mg (btN b) = none) (ha : PA X (e :: es) (tAo ct cl sg W lv as)) (hs : (e :: es).any isStar = false) :
    PE X (.Call (.Name (btN b) p) (e :: es) [] pos) (tE ct cl sg W lv (.blt b as)) := by
  have h1 : isStar e = false ∧ es.any isStar = false := by simpa using hs
  have base : PE X (.Call (.Name (btN b) p) (e :: es) [] pos) (tCB (rBlt X.K b) (tAo ct cl sg W lv as)) := by
    have r := rBlt_ok (X := X) hc hr b
    have bt := boot_btV b
    cases b <;> first
      | exact pe_callB r hg hm bt ha (by decide) (by decide) (notStar h1.1) (noStar h1.2)
      | exact pe_callTy r hg hm bt ha (by decide) (by decide) (notStar h1.1) (noStar h1.2)
  refine base.conseq fun σ H Q ⟨y, c, s, h⟩ => ?_
  simp only [evE] at h
  rw [Post.bind] at h
  refine ⟨y, c, s, h.imp (fun _ _ z => z) fun rs c1 q1 y1 vs H1 x1 s1 r1 => ?_⟩
  split at q1
  · rename_i f ds e1
    obtain ⟨l, hv⟩ := looks_vw s1 r1 e1
    exact blt_go (K := fun r c' => ∀ y' v H', Ext y lv y' → SR y' lv c' σ H' → RelR y' lv c' σ H' r v → Q v H') s1 l hv q1 fun r y2 u H2 k x2 s2 r2 => k y2 u H2 (x1.trans x2) s2 r2
  · exact q1.elim

/-! ### isinstance -/
def tyS : Ty → String
  | .int => "int" | .bool => "bool" | .list => "list" | .tuple => "tuple" | .dict => "dict" | .str => "str"
def dS : D → String
  | .non => "NoneType" | .bl _ => "bool" | .int _ => "int" | .str _ => "str" | .lst _ => "list" | .tup _ => "tuple" | .dic _ _ => "dict" | .stm _ => "list" | .obj _ => "list"
theorem boot_ty : ∀ t, bootBuiltins (PySem.Str.ofString (tyS t)) = some (.type (tyS t)) := by
  intro t; cases t <;> (with_unfolding_all decide +kernel)
theorem kit_tab (K : PySem.W.Frag) (t : Ty) (d : D) (hn : opq d = false) : PySem.W.kitOne K (.type (dS d)) (.type (tyS t)) = some (isTy t d) := by
  cases d with
  | stm g => simp [opq] at hn
  | obj g => simp [opq] at hn
  | _ => cases t <;> exact kit_ty (by dsimp only [dS, tyS, isTy]; with_unfolding_all decide +kernel)
theorem tyx_of {K : PySem.W.Frag} {f : Fl} {d : D} {v : V} (h : Vw y lv H f d v) (hn : opq d = false) : TyX K H v (.type (dS d)) := by
  cases d with
  | non => rw [nonV h]; exact .base .non
  | bl b => rw [blV h]; exact .base (.bl b)
  | int b => rw [intV h]; exact .base (.int b)
  | str b => rw [strV h]; exact .base (.str b)
  | lst xs => obtain ⟨a, vs, rfl, h1, _⟩ := h; exact .base (.lst h1)
  | tup xs => obtain ⟨a, vs, rfl, h1, _⟩ := h; exact .base (.tup h1.1)
  | dic a b => simp only [Vw, Rp] at h
  | stm g => simp [opq] at hn
  | obj g => simp [opq] at hn
theorem kitAny_tab (K : PySem.W.Frag) {d : D} (hn : opq d = false) : ∀ ts : List Ty, PySem.W.kitAny K (.type (dS d)) (ts.map fun t => Value.type (tyS t)) = some (ts.any fun t => isTy t d)
  | [] => kitAny_nil
  | t :: ts => by
    have ht := kit_tab K t d hn
    exact kitAny_cons ht (fun hb => by rw [kitAny_tab K hn ts, List.any_cons, hb]; rfl) (fun hb => by rw [List.any_cons, hb]; rfl)
/-- the written types of a tuple -/
theorem a_tys {sc : Scope} : ∀ {es : List Expr} {ts : List Ty}, es.mapM (tyN sc) = some ts → (∀ x, isGlb sc x = true → Gl X x) → (∀ t, X.mg (PySem.Str.ofString (tyS t)) = none) → PA X es (fun _ H Q => Q (ts.map fun t => V.ty (tyS t)) H)
  | [], ts, h, _, _ => by
    simp only [List.mapM_nil, Option.pure_def, Option.some.injEq] at h
    subst h
    exact pa_nil
  | e :: es, ts, h, hg, hm => by
    rw [List.mapM_cons] at h
    cases e1 : tyN sc e with
    | none => rw [e1] at h; simp at h
    | some t =>
      cases e2 : es.mapM (tyN sc) with
      | none => rw [e1, e2] at h; simp at h
      | some r =>
        rw [e1, e2] at h
        simp at h
        subst h
        cases e <;> first | (simp [tyN] at e1; done) | skip
        rename_i x p
        simp only [tyN] at e1
        split at e1
        · rename_i hx
          have ex : x = PySem.Str.ofString (tyS t) := by
            unfold tyOf at e1
            repeat' split at e1
            all_goals first | (cases e1; assumption) | cases e1
          subst ex
          have hb := boot_ty t
          have nn : PySem.Str.ofString (tyS t) ≠ "__name__" := by cases t <;> decide
          have nd : (PySem.Str.ofString (tyS t) == ("__debug__" : Str)) = false := by cases t <;> decide
          exact (pa_cons (pe_bltn (v := V.ty (tyS t)) (hg _ hx) (hm t) hb rfl nn nd) (a_tys e2 hg hm) rfl).conseq fun σ H Q q => q
        · cases e1
theorem Vw.sub {H' : Hp} {f : Fl} {d : D} {v : V} (s : Sub H H') (h : Vw y lv H f d v) : Vw y lv H' f d v := by
  cases d with
  | lst xs => obtain ⟨a, vs, e, h1, h2⟩ := h; exact ⟨a, vs, e, s _ _ h1, h2⟩
  | tup xs => obtain ⟨a, vs, e, h1, h2⟩ := h; exact ⟨a, vs, e, ⟨s _ _ h1.1, h1.2⟩, h2⟩
  | _ => exact Rp.mono (Pre.refl _) s _ _ h
theorem clsv_tys : ∀ ts : List Ty, Paired ClsV (ts.map fun t => V.ty (tyS t)) (ts.map fun t => Value.type (tyS t))
  | [] => .nil
  | t :: ts => .cons (.ty _) (clsv_tys ts)
theorem e_isaT {a : IE} {ts : List Ty} {sc : Scope} {e : Expr} {es : List Expr} {k : Nat} {p pos tp : Pos} (hg : Gl X "isinstance") (hm : X.mg "isinstance" = none) (hgl : ∀ x, isGlb sc x = true → Gl X x) (hmt : ∀ t, X.mg (PySem.Str.ofString (tyS t)) = none)
    (ha : PE X e (tE ct cl sg W lv a)) (hs : isStar e = false) (ht : es.mapM (tyN sc) = some ts) (hl : ts.length ≤ 9) : PE X (.Call (.Name "isinstance" p) [e, .Tuple es k tp] [] pos) (tE ct cl sg W lv (.isa a ts)) := by
  have bi : bootBuiltins "isinstance" = some (.builtin "isinstance") := by with_unfolding_all decide +kernel
  refine (pe_callB call_isiT hg hm bi (pa_cons ha (pa_cons (pe_tup (a_tys ht hgl hmt)) pa_nil rfl) (notStar hs)) (by decide) (by decide) (notStar hs) rfl).conseq fun σ H Q ⟨y, c, s, h⟩ => ?_
  simp only [evE] at h
  refine goO s h fun ra c1 y1 v H1 x1 s1 r1 q1 => ?_
  have z : (ts.map fun t => V.ty (tyS t)).length ≤ sizeLine := by
    rw [List.length_map]
    exact Nat.le_trans hl (by rw [sizeLine_eq]; decide)
  refine ⟨z, fun n hn => ?_⟩
  split at q1
  · exact q1.elim
  · exact q1.elim
  · rename_i f d hd hd2 h1
    have nd : opq d = false := by
      cases d <;> first | rfl | exact absurd rfl (hd _) | exact absurd rfl (hd2 _)
    exact ⟨v, n, _, _, _, _, rfl, upd_same, clsv_tys ts, tyx_of ((r1.vw s1 h1).sub (Sub.to_upd hn)) nd, kitAny_tab X.K nd ts, q1 y1 _ _ x1 (s1.alloc _ hn) (bl_ok (s1.alloc _ hn))⟩
  · exact q1.elim
theorem e_isa1 {a : IE} {t : Ty} {sc : Scope} {e : Expr} {x : Str} {p pos tp : Pos} (hg : Gl X "isinstance") (hm : X.mg "isinstance" = none) (hgl : ∀ x, isGlb sc x = true → Gl X x) (hmt : ∀ t, X.mg (PySem.Str.ofString (tyS t)) = none)
    (ha : PE X e (tE ct cl sg W lv a)) (hs : isStar e = false) (ht : tyN sc (.Name x tp) = some t) : PE X (.Call (.Name "isinstance" p) [e, .Name x tp] [] pos) (tE ct cl sg W lv (.isa a [t])) := by
  have bi : bootBuiltins "isinstance" = some (.builtin "isinstance") := by with_unfolding_all decide +kernel
  have tt : PA X [.Name x tp] (fun _ H Q => Q ([t].map fun t => V.ty (tyS t)) H) := a_tys (sc := sc) (by rw [List.mapM_cons, ht]; rfl) hgl hmt
  have pa : PA X [e, .Name x tp] (tCons (tE ct cl sg W lv a) fun _ H Q => Q ([t].map fun t => V.ty (tyS t)) H) := pa_cons ha tt (notStar hs)
  refine (pe_callB call_isi hg hm bi pa (by decide) (by decide) (notStar hs) rfl).conseq fun σ H Q ⟨y, c, s, h⟩ => ?_
  simp only [evE] at h
  refine goO s h fun ra c1 y1 v H1 x1 s1 r1 q1 => ?_
  split at q1
  · exact q1.elim
  · exact q1.elim
  · rename_i f d hd hd2 h1
    have nd : opq d = false := by
      cases d <;> first | rfl | exact absurd rfl (hd _) | exact absurd rfl (hd2 _)
    have e1 : ([t].any fun t => isTy t d) = isTy t d := by simp
    rw [e1] at q1
    exact ⟨v, V.ty (tyS t), _, _, _, rfl, .ty _, tyx_of (r1.vw s1 h1) nd, kit_tab X.K t d nd, q1 y1 _ _ x1 s1 (bl_ok s1)⟩
  · exact q1.elim

/-! ### list(range(..)) -/
theorem rgV_eq (a b : Int) : rgV a b = ((List.range (b - a).toNat).map fun (k : Nat) => a + (k : Int)).map V.int := by
  unfold rgV; rw [List.map_map]; rfl
theorem e_lrng1 {a : IE} {e : Expr} {p p2 pos pos2 : Pos} (hc : X.calm = true) (hg : Gl X "list") (hm : X.mg "list" = none) (hg2 : Gl X "range") (hm2 : X.mg "range" = none) (ha : PE X e (tE ct cl sg W lv a)) (hs : isStar e = false) :
    PE X (.Call (.Name "list" p) [.Call (.Name "range" p2) [e] [] pos2] [] pos) (tE ct cl sg W lv (.lrng [a])) :=
  (pe_listRg hc hg hm (prg_1 hg2 hm2 ha (notStar hs)) rfl).conseq fun σ H Q ⟨y, c, s, h⟩ => by
    simp only [evE, evF] at h
    rw [Post.bind] at h
    refine goZ s h fun fd c1 y1 v H1 x1 s1 r1 q1 => ?_
    obtain ⟨f, d⟩ := fd
    cases d <;> first | exact q1.elim | skip
    rename_i n
    have hv : v = .int n := by simpa only [Rp] using r1
    subst hv
    have q1 : Post ((ofOpt (rngD [.int n]) c1).bind fun xs c => .ok (.new Fl.top (.lst xs)) c) (XW ct lv y σ W) fun r c' => ∀ y' v H', Ext y lv y' → SR y' lv c' σ H' → RelR y' lv c' σ H' r v → Q v H' := q1
    rw [Post.bind, Post.ofOpt] at q1
    obtain ⟨xs, e0, q1⟩ := q1
    simp only [rngD] at e0
    split at e0
    · rename_i hz
      rw [rOk_iff] at hz
      cases e0
      have hSZ : (SZ : Int) = 16777216 := rfl
      refine ⟨n, rfl, ⟨by omega, by omega, by omega, by omega, by omega⟩, fun q hq => ?_⟩
      have e1 : rgV 0 n = ((List.range n.toNat).map fun (k : Nat) => (k : Int)).map V.int := by
        rw [rgV_eq]; simp
      have e2 : ((List.range n.toNat).map fun (k : Nat) => D.int (k : Int)) = ((List.range n.toNat).map fun (k : Nat) => (k : Int)).map D.int := by rw [List.map_map]; rfl
      obtain ⟨s2, r2⟩ := s1.newList (f := Fl.top) hq (Rps.ints (sx := y1.sx) (G := regm y1.G lv Fl.top) ((List.range n.toNat).map fun (k : Nat) => (k : Int)))
      rw [e1]
      rw [e2] at q1
      exact q1 y1 _ _ x1 s2 r2
    · cases e0
theorem e_lrng2 {a b : IE} {e e' : Expr} {p p2 pos pos2 : Pos} (hc : X.calm = true) (hg : Gl X "list") (hm : X.mg "list" = none) (hg2 : Gl X "range") (hm2 : X.mg "range" = none) (ha : PE X e (tE ct cl sg W lv a)) (hb : PE X e' (tE ct cl sg W lv b)) (hs : isStar e = false) (hs' : isStar e' = false) :
    PE X (.Call (.Name "list" p) [.Call (.Name "range" p2) [e, e'] [] pos2] [] pos) (tE ct cl sg W lv (.lrng [a, b])) := by
  have na : starEach [e, e'] X.env = (false, eval e X.env) :: starEach [e'] X.env := notStar hs
  have nb : starEach [e'] X.env = (false, eval e' X.env) :: starEach [] X.env := notStar hs'
  refine (pe_listRg hc hg hm (prg_2 hg2 hm2 ha hb na nb (noStar (pos := pos2) (by simpa using hs'))) rfl).conseq fun σ H Q ⟨y, c, s, h⟩ => ?_
  simp only [evE, evF] at h
  rw [Post.bind] at h
  refine goZ s h fun fd c1 y1 v H1 x1 s1 r1 q1 => ?_
  rw [Post.bind] at q1
  replace q1 := q1.imp (XW.ext x1) fun _ _ z => z
  refine goZ s1 q1 fun fd2 c2 y2 v2 H2 x2 s2 r2 q2 => ?_
  obtain ⟨f, d⟩ := fd
  obtain ⟨f2, d2⟩ := fd2
  cases d <;> first | exact q2.elim | skip
  cases d2 <;> first | exact q2.elim | skip
  rename_i n m
  have hv : v = .int n := by simpa only [Rp] using r1
  have hv2 : v2 = .int m := by simpa only [Rp] using r2
  subst hv hv2
  have q2 : Post ((ofOpt (rngD [.int n, .int m]) c2).bind fun xs c => .ok (.new Fl.top (.lst xs)) c) (XW ct lv y σ W) fun r c' => ∀ y' v H', Ext y lv y' → SR y' lv c' σ H' → RelR y' lv c' σ H' r v → Q v H' := (Post.imp q2 (fun _ _ z => z) fun _ _ z => z : Post _ _ _)
  rw [Post.bind, Post.ofOpt] at q2
  obtain ⟨xs, e0, q2⟩ := q2
  simp only [rngD] at e0
  split at e0
  · rename_i hz
    rw [Bool.and_eq_true, Bool.and_eq_true, rOk_iff, rOk_iff, dOk_iff] at hz
    cases e0
    have hSZ : (SZ : Int) = 16777216 := rfl
    refine ⟨n, m, rfl, rfl, ⟨by omega, by omega, by omega, by omega, by omega⟩, fun q hq => ?_⟩
    have e2 : ((List.range (m - n).toNat).map fun (k : Nat) => D.int (n + (k : Int))) = ((List.range (m - n).toNat).map fun (k : Nat) => n + (k : Int)).map D.int := by rw [List.map_map]; rfl
    obtain ⟨s3, r3⟩ := s2.newList (f := Fl.top) hq (Rps.ints (sx := y2.sx) (G := regm y2.G lv Fl.top) ((List.range (m - n).toNat).map fun (k : Nat) => n + (k : Int)))
    rw [rgV_eq]
    rw [e2] at q2
    exact q2 y2 _ _ (x1.trans x2) s3 r3
  · cases e0
end
end Sd

/-! Sd10: methods of owned lists. -/
namespace Sd
open PySem PySem.Spec PyProof.Rows L2
section
variable {X : Cx} {ct : Ct} {cl : Caller} {sg : Sig} {W : WX} {lv : Nat} {y : Dy} {c : C} {σ : L2.St} {H : Hp}
theorem Rps.dropLast {sx : List (Addr × Addr)} {G : Hp} {ds : List D} {vs : List V} (h : Rps sx G ds vs) : Rps sx G ds.dropLast vs.dropLast := by
  rw [List.dropLast_eq_take, List.dropLast_eq_take, h.length]; exact h.take _
def mtS : Mt → Str
  | .append => "append" | .extend => "extend" | .pop => "pop"
theorem fewArgs {X : Cx} {es : List Expr} {cpos : Pos} (h : es.any isStar = false) (hl : es.length < 30) :
    ((backTo cpos (starEach es X.env)).all (fun x => !x.1) && (backToKw cpos (keywordEach [] X.env)).all (fun x => x.1.isSome) && decide (es.length + ([] : List Keyword).length + (if ([] : List Keyword).isEmpty then 0 else 1) < 30)) = true := by
  have a : (backTo cpos (starEach es X.env)).all (fun x => !x.1) = true := by
    have := noStar (env := X.env) (pos := cpos) h
    rw [List.all_eq_true]
    intro x hx
    rw [List.any_eq_false] at this
    simpa using this x hx
  rw [a]
  have b : (backToKw cpos (keywordEach [] X.env)).all (fun x => x.1.isSome) = true := rfl
  rw [b]
  simp [hl]
/-- where an owned list stands -/
theorem ownL {i : Nat} (s : SR y lv c σ H) (h : isOwnL c i = true) : ∃ f xs p vs, c.r[i]? = some (.ow f (.lst xs)) ∧ σ[i]? = some (some (.ref p)) ∧ H p = some (.lst vs) ∧ Rps y.sx (regm y.G lv f) xs vs := by
  unfold isOwnL at h
  split at h
  · rename_i f xs hs
    obtain ⟨p, e1, _, _, _, _, vs, h1, h2⟩ := s.slots i _ hs
    exact ⟨f, xs, p, vs, hs, getD_some.mp e1, h1, h2⟩
  · cases h
theorem ownC {i : Nat} {f : Fl} {xs : List D} {p : Addr} (s : SR y lv c σ H) (hs : c.r[i]? = some (.ow f (.lst xs))) (hp : σ[i]? = some (some (.ref p))) : ∃ vs, H p = some (.lst vs) ∧ Rps y.sx (regm y.G lv f) xs vs := by
  obtain ⟨q, e1, _, _, _, _, vs, h1, h2⟩ := s.slots i _ hs
  rw [getD_some.mpr hp] at e1
  cases e1
  exact ⟨vs, h1, h2⟩
theorem evF_len : ∀ {as : List IE} {c : C} {W : Exn → C → Prop} {K : Fl × List D → C → Prop}, Post (evF cl sg lv as c) W K → Post (evF cl sg lv as c) W fun fd c => fd.2.length = as.length ∧ K fd c
  | [], c, W, K, h => by simp only [evF, Post] at h ⊢; exact ⟨rfl, h⟩
  | a :: as, c, W, K, h => by
    simp only [evF] at h ⊢
    rw [Post.bind] at h ⊢
    refine h.imp (fun _ _ z => z) fun fd c1 q => ?_
    rw [Post.bind] at q ⊢
    refine (evF_len q).imp (fun _ _ z => z) fun gd c2 q2 => ?_
    exact ⟨by simp [q2.1], q2.2⟩
theorem e_mthA {a : IE} {i : Nat} {m : Mt} {x : Str} {e : Expr} {p ap pos : Pos} (hN : X.N[i]? = some x) (hv : Vis X.env.scope x) (hd : (x == ("__debug__" : Str)) = false) (hcd : (x == ("__classdict__" : Str)) = false) (hm : m = .append ∨ m = .extend ∨ m = .pop)
    (hl : (ap.endLine == pos.line) = true) (hs : isStar e = false) (ha : PA X [e] (tAf ct cl sg W lv [a])) : PE X (.Call (.Attribute (.Name x p) (mtS m) ap) [e] [] pos) (tE ct cl sg W lv (.mth m i [a])) := by
  have nst : [e].any isStar = false := by simp [hs]
  have few := fewArgs (X := X) (cpos := pos) nst (by simp)
  have go : ∀ {r : V → List V → Hp → VK → Prop}, (∀ (y : Dy) (c : C) (σ : L2.St) (H : Hp) (f g : Fl) (xs ds ys : List D) (vs ws : List V) (q : Addr) (d : D) (Q : VK), ds.length = 1 → mthD m xs ds = some (d, ys) → Rps y.sx (regm y.G lv g) ds vs → H q = some (.lst ws) → Rps y.sx (regm y.G lv f) xs ws → SR y lv c σ H →
      (∀ zs u, Rps y.sx (regm y.G lv (f.join g)) ys zs → Rp y.sx (regm y.G lv (f.join g)) d u → Q u (upd H q (.lst zs))) → r (.ref q) vs H Q) →
      ∀ σ H Q, tE ct cl sg W lv (.mth m i [a]) σ H Q → tBM X.K "list" r (tVar i) (tAf ct cl sg W lv [a]) σ H Q := fun {r} hr σ H Q ⟨y, c, s, h⟩ => by
    simp only [evE] at h
    split at h
    · rename_i ho
      obtain ⟨f0, xs0, q, vs0, h1, h2, h3, h4⟩ := ownL s ho
      refine ⟨_, h2, .inl ⟨rfl, _, .of h3⟩, y, c, s, ?_⟩
      rw [Post.bind] at h
      refine (evF_len h).imp (fun _ _ z => z) fun fd c1 ⟨l1, q1⟩ y1 vs H1 x1 s1 r1 => ?_
      split at q1
      · rename_i f xs hs1
        split at q1
        · rename_i d ys e1
          obtain ⟨ws, h5, h6⟩ := ownC s1 hs1 h2
          exact hr y1 c1 σ H1 f fd.1 xs fd.2 ys vs ws q d Q l1 e1 r1 h5 h6 s1 fun zs u rz ru => q1 y1 u _ x1 (s1.change hs1 h2 rz) (val_ok (s1.change hs1 h2 rz) ru)
        · exact q1.elim
      · exact q1.elim
    · exact h.elim
  have SZ' := SZ_eq
  cases m with
  | append =>
    refine (pe_bm PySem.F.plainAttrs_list PySem.F.slot_list_append PySem.F.type_list_append mt_append (pe_var hN hv hd hcd) ha rfl few hl (notStar hs) rfl).conseq (go fun y c σ H f g xs ds ys vs ws q d Q l1 e1 r1 h5 h6 s1 k => ?_)
    match ds, l1, e1, r1 with
    | [z], _, e1, r1 =>
      obtain ⟨v, r, rfl, r2, r3⟩ := r1.inv
      simp only [Rps] at r3
      subst r3
      simp only [mthD] at e1
      split at e1
      · rename_i hz
        cases e1
        exact ⟨q, ws, v, rfl, rfl, h5, by rw [h6.length, ← SZ']; exact hz, k _ _ ((Rps.mono (Pre.refl _) (regm_join_l s1.g) _ _ h6).append (.cons (Rp.mono (Pre.refl _) (regm_join_r s1.g) _ _ r2) .nil)) (by simp [Rp])⟩
      · cases e1
  | extend =>
    refine (pe_bm PySem.F.plainAttrs_list PySem.F.slot_list_extend PySem.F.type_list_extend mt_extend (pe_var hN hv hd hcd) ha rfl few hl (notStar hs) rfl).conseq (go fun y c σ H f g xs ds ys vs ws q d Q l1 e1 r1 h5 h6 s1 k => ?_)
    match ds, l1, e1, r1 with
    | [.lst zs], _, e1, r1 =>
      obtain ⟨v, r, rfl, r2, r3⟩ := r1.inv
      simp only [Rps] at r3
      subst r3
      simp only [Rp] at r2
      obtain ⟨b, us, rfl, hb, rb⟩ := r2
      simp only [mthD] at e1
      split at e1
      · rename_i hz
        cases e1
        refine ⟨q, b, ws, us, rfl, rfl, h5, s1.top _ _ (regm_sub _ _ hb), by rw [h6.length, rb.length, ← SZ']; exact hz, k _ _ ((Rps.mono (Pre.refl _) (regm_join_l s1.g) _ _ h6).append (Rps.mono (Pre.refl _) (regm_join_r s1.g) _ _ rb)) (by simp [Rp])⟩
      · cases e1
  | pop =>
    refine (pe_bm PySem.F.plainAttrs_list PySem.F.slot_list_pop PySem.F.type_list_pop mt_popAt (pe_var hN hv hd hcd) ha rfl few hl (notStar hs) rfl).conseq (go fun y c σ H f g xs ds ys vs ws q d Q l1 e1 r1 h5 h6 s1 k => ?_)
    match ds, l1, e1, r1 with
    | [.int n], _, e1, r1 =>
      obtain ⟨v, r, rfl, r2, r3⟩ := r1.inv
      simp only [Rps] at r3
      subst r3
      simp only [Rp] at r2
      subst r2
      simp only [mthD] at e1
      split at e1
      · rename_i hz
        split at e1
        · rename_i j hj
          split at e1
          · rename_i d' hd'
            cases e1
            obtain ⟨u, hu, ru⟩ := h6.get hd'
            have hz' : n.natAbs ≤ 16777216 := hz
            refine ⟨q, ws, n, j, u, rfl, rfl, h5, by omega, by omega, by rw [h6.length]; exact (ixN_seq hj).1, hu, k _ _ (Rps.mono (Pre.refl _) (regm_join_l s1.g) _ _ (h6.eraseIdx j)) (Rp.mono (Pre.refl _) (regm_join_l s1.g) _ _ ru)⟩
          · cases e1
        · cases e1
      · cases e1
theorem e_pop0 {i : Nat} {x : Str} {p ap pos : Pos} (hN : X.N[i]? = some x) (hv : Vis X.env.scope x) (hd : (x == ("__debug__" : Str)) = false) (hcd : (x == ("__classdict__" : Str)) = false)
    (hl : (ap.endLine == pos.line) = true) : PE X (.Call (.Attribute (.Name x p) "pop" ap) [] [] pos) (tE ct cl sg W lv (.mth .pop i [])) :=
  (pe_bm0 PySem.F.plainAttrs_list PySem.F.slot_list_pop PySem.F.type_list_pop mt_pop (pe_var hN hv hd hcd) rfl hl).conseq fun σ H Q ⟨y, c, s, h⟩ => by
    simp only [evE, evF] at h
    split at h
    · rename_i ho
      obtain ⟨f0, xs0, q, vs0, h1, h2, h3, h4⟩ := ownL s ho
      refine ⟨_, h2, .inl ⟨rfl, _, .of h3⟩, ?_⟩
      simp only [Out.bind, h1, mthD] at h
      cases e1 : xs0[xs0.length - 1]? with
      | none => rw [e1] at h; exact h.elim
      | some d =>
        rw [e1] at h
        obtain ⟨u, hu, ru⟩ := h4.get e1
        have ru' := Rp.mono (Pre.refl _) (regm_join_l (g := Fl.top) s.g) _ _ ru
        have sr := s.change (g := f0.join Fl.top) h1 h2 (Rps.mono (Pre.refl _) (regm_join_l s.g) _ _ h4.dropLast)
        exact ⟨q, vs0, u, rfl, rfl, h3, by rw [h4.length]; exact hu, h y u _ Ext.refl sr (val_ok sr ru')⟩
    · exact h.elim
end
end Sd

/-! Sd11: what a def promises; a state behind its call. -/
namespace Sd
open PySem PySem.Spec PyProof.Rows L2

/-! ### the promise -/
structure StrO (sx : List (Addr × Addr)) (s : List Stm) (H : Hp) : Prop where
  len : sx.length = s.length
  at_ : ∀ (g : Nat) (p : Addr × Addr) (t : Stm), sx[g]? = some p → s[g]? = some t → H p.1 = some (.lst [.ref p.2, .int t.cur, .int t.cnt, .int t.mix]) ∧ H p.2 = some (.lst (t.cells.map V.int))
  nd : (sx.flatMap fun p => [p.1, p.2]).Nodup
def OffS (sx : List (Addr × Addr)) (A : Hp) : Prop := ∀ p ∈ sx, A p.1 = none ∧ A p.2 = none
/-- the heap behind the call -/
structure Aft (sx : List (Addr × Addr)) (s' : List Stm) (sx' : List (Addr × Addr)) (H H' : Hp) : Prop where
  pre : Pre sx sx'
  str : StrO sx' s' H'
  new : ∀ q ∈ sx', q ∉ sx → H q.1 = none ∧ H q.2 = none
  keep : ∀ a o, H a = some o → NotStr sx a → H' a = some o
/-- where lies what it hands back -/
structure Back (A : Hp) (fl : Fl) (sx' : List (Addr × Addr)) (H H' B : Hp) : Prop where
  sub : Sub B H'
  off : OffS sx' B
  org : ∀ a o, B a = some o → A a = some o ∨ H a = none
  own : 1 ≤ fl.lo → ∀ a o, B a = some o → (∃ xs, o = .tup xs) ∨ H a = none
def ExB (ct : Ct) (sx : List (Addr × Addr)) (B H : Hp) (e : Exn) (cv : Value) (d : Option Addr) : Prop :=
  ∃ C fld dx v, ct e.cls = some (C, fld) ∧ cv = .ref C ∧ d = some dx ∧ H dx = some (.xd [(fld, v)]) ∧ Rp sx B e.arg v
/-- the def f, run by the evaluator, for the arguments' data -/
def spF (ct : Ct) (cf : List D → List Stm → Option (Fl × D × List Stm ⊕ Exn × List Stm)) (n : Nat) : Sp := fun vs H Q E => ∃ sx s ds A, ds.length = n ∧ Sub A H ∧ OffS sx A ∧ StrO sx s H ∧ Rps sx A ds vs ∧
  match cf ds s with
  | some (.inl (fl, d, s')) => ∀ v H' sx' B, Aft sx s' sx' H H' → Back A fl sx' H H' B → Rp sx' B d v → Q v H'
  | some (.inr (e, s')) => ∀ cv d H' sx' B, Aft sx s' sx' H H' → Back A e.fl sx' H H' B → ExB ct sx' B H' e cv d → E cv d H'
  | none => False
theorem spF.len {ct : Ct} {cf : List D → List Stm → Option (Fl × D × List Stm ⊕ Exn × List Stm)} {n : Nat} {vs : List V} {H : Hp} {Q : VK} {E : XK} (h : spF ct cf n vs H Q E) : vs.length = n := by
  obtain ⟨sx, s, ds, A, h1, _, _, _, h2, _⟩ := h
  rw [h2.length, h1]

/-! ### the state behind -/
def mixG (G : Nat → Hp) (lv : Nat) (B H : Hp) : Nat → Hp := fun n => if n < lv then G n else fun a => match G lv a with
  | some o => some o
  | none => match H a with
    | none => B a
    | some _ => none
theorem mixG_low {G : Nat → Hp} {lv n : Nat} {B H : Hp} (h : n < lv) : mixG G lv B H n = G n := by unfold mixG; rw [if_pos h]
theorem mixG_top {G : Nat → Hp} {lv n : Nat} {B H : Hp} (h : lv ≤ n) : mixG G lv B H n = mixG G lv B H lv := by
  unfold mixG; rw [if_neg (by omega), if_neg (by omega)]
theorem mixG_old {G : Nat → Hp} {lv : Nat} {B H : Hp} {a : Addr} {o : HO} (h : G lv a = some o) : mixG G lv B H lv a = some o := by
  unfold mixG; rw [if_neg (by omega)]; show (match G lv a with | some o => _ | none => _) = _; rw [h]
theorem mixG_new {G : Nat → Hp} {lv : Nat} {B H : Hp} {a : Addr} {o : HO} (t : Sub (G lv) H) (h : H a = none) (hb : B a = some o) : mixG G lv B H lv a = some o := by
  unfold mixG; rw [if_neg (by omega)]; show (match G lv a with | some o => _ | none => match H a with | none => B a | some _ => none) = _; rw [t.none h, h]; exact hb
theorem mixG_inv {G : Nat → Hp} {lv : Nat} {B H : Hp} {a : Addr} {o : HO} (h : mixG G lv B H lv a = some o) : G lv a = some o ∨ (G lv a = none ∧ H a = none ∧ B a = some o) := by
  unfold mixG at h
  rw [if_neg (by omega)] at h
  cases e : G lv a with
  | some u =>
    have h : (match G lv a with | some o => some o | none => match H a with | none => B a | some _ => none) = some o := h
    rw [e] at h; exact .inl h
  | none =>
    have h : (match G lv a with | some o => some o | none => match H a with | none => B a | some _ => none) = some o := h
    rw [e] at h
    cases e2 : H a with
    | some u => rw [e2] at h; cases h
    | none => rw [e2] at h; exact .inr ⟨rfl, rfl, h⟩
theorem Gok.mix {G : Nat → Hp} {lv : Nat} {B H : Hp} (k : Gok G lv) : Gok (mixG G lv B H) lv := by
  refine ⟨fun m n h => ?_, fun n h => mixG_top h⟩
  by_cases h1 : n < lv
  · rw [mixG_low h1, mixG_low (by omega)]; exact k.mono m n h
  · rw [mixG_top (by omega : lv ≤ n)]
    by_cases h2 : m < lv
    · rw [mixG_low h2]; exact fun a o e => mixG_old (k.mono m lv (by omega) a o e)
    · rw [mixG_top (by omega : lv ≤ m)]; exact Sub.refl _
theorem Gext.mix {G : Nat → Hp} {lv : Nat} {B H : Hp} : Gext G lv (mixG G lv B H) := ⟨fun n h => mixG_low h, fun a o e => mixG_old e⟩
section
variable {y : Dy} {lv : Nat} {c : C} {σ : L2.St} {H : Hp}
theorem SR.called {A H' B : Hp} {fl : Fl} {sx' : List (Addr × Addr)} {s' : List Stm} (s : SR y lv c σ H) (af : Aft y.sx s' sx' H H') (bk : Back A fl sx' H H' B) :
    Ext y lv { y with G := mixG y.G lv B H, sx := sx' } ∧ SR { y with G := mixG y.G lv B H, sx := sx' } lv { c with s := s' } σ H' := by
  have k' : Gok (mixG y.G lv B H) lv := s.g.mix
  have e : Ext y lv { y with G := mixG y.G lv B H, sx := sx' } := ⟨rfl, rfl, Gext.mix, af.pre⟩
  have mem : ∀ q ∈ y.sx, q ∈ sx' := fun q hq => by obtain ⟨r, hr⟩ := af.pre; rw [hr]; exact List.mem_append_left _ hq
  have offG : ∀ {a : Addr} {o : HO}, y.G lv a = some o → NotStr y.sx a := fun {a o} h q hq => by
    obtain ⟨a1, a2, _, _⟩ := s.str.off q hq
    exact ⟨fun z => (by rw [z, a1] at h; cases h), fun z => (by rw [z, a2] at h; cases h)⟩
  have keep : ∀ {a : Addr} {o : HO}, H a = some o → NotStr y.sx a → H' a = some o := fun {a o} h n => af.keep a o h n
  have live : ∀ q ∈ sx', H' q.1 ≠ none ∧ H' q.2 ≠ none := fun q hq => by
    obtain ⟨g, hg⟩ := List.getElem?_of_mem hq
    have hl : g < s'.length := by rw [← af.str.len]; exact (List.getElem?_eq_some_iff.mp hg).1
    obtain ⟨h1, h2⟩ := af.str.at_ g q _ hg (List.getElem?_eq_getElem hl)
    rw [h1, h2]; exact ⟨Option.some_ne_none _, Option.some_ne_none _⟩
  refine ⟨e, s.pos, s.zb, k', fun a o h => ?_, fun a o h => ?_, fun a h => ?_, fun a o h => ?_, fun i sl hi => ?_, s.inj, ⟨af.str.len, af.str.at_, fun q hq => ?_, af.str.nd⟩, s.len⟩
  · rcases mixG_inv h with h | ⟨_, _, h⟩
    · exact keep (s.top _ _ h) (offG h)
    · exact bk.sub _ _ h
  · refine keep (s.prot _ _ h) fun q hq => ?_
    obtain ⟨_, _, a1, a2⟩ := s.str.off q hq
    have h : y.Z a = some o := h
    exact ⟨fun z => (by rw [z, a1] at h; cases h), fun z => (by rw [z, a2] at h; cases h)⟩
  · have hH := s.old a h
    by_cases hn : NotStr y.sx a
    · obtain ⟨o, ho⟩ := Option.ne_none_iff_exists'.mp hH
      rw [keep ho hn]; exact fun z => by cases z
    · have : ∃ q ∈ y.sx, a = q.1 ∨ a = q.2 := by
        apply Classical.byContradiction
        intro hc
        exact hn fun q hq => ⟨fun z => hc ⟨q, hq, .inl z⟩, fun z => hc ⟨q, hq, .inr z⟩⟩
      obtain ⟨q, hq, z | z⟩ := this
      · rw [z]; exact (live q (mem q hq)).1
      · rw [z]; exact (live q (mem q hq)).2
  · have h : mixG y.G lv B H lv a = some o := h
    show mixG y.G lv B H 0 a = some o ∨ _
    rw [mixG_low (show 0 < lv from s.pos)]
    rcases mixG_inv h with h | ⟨_, h, _⟩
    · exact s.fresh a o h
    · exact .inr (s.gnone h).2.2.1
  · cases sl with
    | un => trivial
    | sh f d =>
      obtain ⟨v, e1, e2⟩ := s.slots i _ hi
      exact ⟨v, e1, Rp.mono af.pre (regm_mono s.g k' e.g) d v e2⟩
    | ow f d =>
      obtain ⟨q, e1, o1, o2, o3, o4, o5⟩ := s.slots i _ hi
      cases d with
      | lst xs =>
        obtain ⟨vs, h1, h2⟩ := o5
        refine ⟨q, e1, ?_, o2, o3, fun r hr => ?_, vs, keep h1 o4, Rps.mono af.pre (regm_mono s.g k' e.g) _ _ h2⟩
        · show mixG y.G lv B H lv q = none
          cases z : mixG y.G lv B H lv q with
          | none => rfl
          | some u =>
            rcases mixG_inv z with z | ⟨_, z, _⟩
            · rw [o1] at z; cases z
            · rw [h1] at z; cases z
        · by_cases hm : r ∈ y.sx
          · exact o4 r hm
          · obtain ⟨n1, n2⟩ := af.new r hr hm
            exact ⟨fun z => (by rw [← z, h1] at n1; cases n1), fun z => (by rw [← z, h1] at n2; cases n2)⟩
      | _ => exact o5.elim
  · have gn : ∀ a, y.G lv a = none → B a = none → mixG y.G lv B H lv a = none := fun a h1 h2 => by
      cases z : mixG y.G lv B H lv a with
      | none => rfl
      | some u =>
        rcases mixG_inv z with z | ⟨_, _, z⟩
        · rw [h1] at z; cases z
        · rw [h2] at z; cases z
    by_cases hm : q ∈ y.sx
    · obtain ⟨a1, a2, a3, a4⟩ := s.str.off q hm
      exact ⟨gn _ a1 (bk.off q hq).1, gn _ a2 (bk.off q hq).2, a3, a4⟩
    · obtain ⟨n1, n2⟩ := af.new q hq hm
      exact ⟨gn _ (s.gnone n1).1 (bk.off q hq).1, gn _ (s.gnone n2).1 (bk.off q hq).2, (s.gnone n1).2.1, (s.gnone n2).2.1⟩
end
/-! ### what comes back -/
mutual
theorem Rp.tups {sx : List (Addr × Addr)} {B G : Hp} (t : ∀ a xs, B a = some (.tup xs) → G a = some (.tup xs)) : ∀ (d : D) (v : V), imm d = true → Rp sx B d v → Rp sx G d v
  | .non, v, _, h => by simpa only [Rp] using h
  | .bl b, v, _, h => by simpa only [Rp] using h
  | .int i, v, _, h => by simpa only [Rp] using h
  | .str x, v, _, h => by simpa only [Rp] using h
  | .lst xs, v, i, h => by simp [imm] at i
  | .tup xs, v, i, h => by
    simp only [Rp] at h ⊢
    obtain ⟨a, vs, e, h1, h2⟩ := h
    exact ⟨a, vs, e, t _ _ h1, Rps.tups t xs vs (by simpa [imm] using i) h2⟩
  | .dic ks ds, v, i, h => by simp [imm] at i
  | .stm k, v, _, h => by simpa only [Rp] using h
  | .obj k, v, _, h => by simpa only [Rp] using h
theorem Rps.tups {sx : List (Addr × Addr)} {B G : Hp} (t : ∀ a xs, B a = some (.tup xs) → G a = some (.tup xs)) : ∀ (ds : List D) (vs : List V), imms ds = true → Rps sx B ds vs → Rps sx G ds vs
  | [], vs, _, h => by simpa only [Rps] using h
  | d :: ds, vs, i, h => by
    obtain ⟨v, r, rfl, h1, h2⟩ := h.inv
    have i' : imm d = true ∧ imms ds = true := by simpa [imms] using i
    exact .cons (Rp.tups t d v i'.1 h1) (Rps.tups t ds r i'.2 h2)
end
section
variable {y : Dy} {lv : Nat} {c : C} {σ : L2.St} {H : Hp}
/-- alone: what it hands back is new, or can't change -/
theorem back_alone {A H' B : Hp} {fl : Fl} {sx' : List (Addr × Addr)} {s' : List Stm} {d : D} {v : V} (s : SR y lv c σ H) (bk : Back A fl sx' H H' B) (hA : ∀ a xs, A a = some (.tup xs) → y.G lv a = some (.tup xs)) (hd : imm d = true ∨ 1 ≤ fl.lo) (r : Rp sx' B d v) :
    Rp sx' (regm (mixG y.G lv B H) lv (.at lv)) d v := by
  have tp : ∀ a xs, B a = some (.tup xs) → mixG y.G lv B H lv a = some (.tup xs) := fun a xs h => by
    rcases bk.org _ _ h with z | z
    · exact mixG_old (hA a xs z)
    · exact mixG_new s.top z h
  rcases hd with hd | hd
  · exact Rp.tups (fun a xs h => regm_tup (tp a xs h)) d v hd r
  · refine Rp.mono (Pre.refl _) (fun a o h => ?_) d v r
    rcases bk.own hd a o h with ⟨xs, rfl⟩ | z
    · exact regm_tup (tp a xs h)
    · refine regm_in (mixG_new s.top z h) (.inr ?_) ?_
      · show mixG y.G lv B H (lv - 1) a = none
        rw [mixG_low (by have := s.pos; omega)]
        exact (s.g.mono (lv - 1) lv (by omega)).none (s.gnone z).1
      · show mixG y.G lv B H lv a ≠ none
        rw [mixG_new s.top z h]; exact fun z => by cases z
/-- with what was passed -/
theorem back_with {H' B : Hp} {fl fj : Fl} {sx' : List (Addr × Addr)} {s' : List Stm} {d : D} {v : V} (s : SR y lv c σ H) (bk : Back (regm y.G lv fj) fl sx' H H' B) (r : Rp sx' B d v) :
    Rp sx' (regm (mixG y.G lv B H) lv (fj.join (.at lv))) d v := by
  refine Rp.mono (Pre.refl _) (fun a o h => ?_) d v r
  rcases bk.org _ _ h with z | z
  · exact regm_join_l s.g.mix _ _ (regm_mono s.g s.g.mix Gext.mix _ _ z)
  · refine regm_join_r s.g.mix _ _ (regm_in (mixG_new s.top z h) (.inr ?_) ?_)
    · show mixG y.G lv B H (lv - 1) a = none
      rw [mixG_low (by have := s.pos; omega)]
      exact (s.g.mono (lv - 1) lv (by omega)).none (s.gnone z).1
    · show mixG y.G lv B H lv a ≠ none
      rw [mixG_new s.top z h]; exact fun z => by cases z

/-! ### what is passed -/
open Classical in
/-- the regions and the owned lists -/
noncomputable def ownA (y : Dy) (lv : Nat) (c : C) (σ : L2.St) (H : Hp) : Hp := fun a => match y.G lv a with
  | some o => some o
  | none => if ∃ i, OwnAt c σ i a then H a else none
theorem ownA_G {a : Addr} {o : HO} (h : y.G lv a = some o) : ownA y lv c σ H a = some o := by unfold ownA; rw [h]
theorem ownA_own {a : Addr} {i : Nat} (s : SR y lv c σ H) (h : OwnAt c σ i a) : ownA y lv c σ H a = H a := by
  obtain ⟨⟨f, d, hf⟩, hs⟩ := h
  obtain ⟨q, e1, o1, _⟩ := s.slots i _ hf
  rw [getD_some.mpr hs] at e1
  cases e1
  unfold ownA
  rw [o1]
  exact if_pos ⟨i, ⟨f, d, hf⟩, hs⟩
theorem ownA_inv {a : Addr} {o : HO} (h : ownA y lv c σ H a = some o) : y.G lv a = some o ∨ (y.G lv a = none ∧ (∃ i, OwnAt c σ i a) ∧ H a = some o) := by
  unfold ownA at h
  cases e : y.G lv a with
  | some u => rw [e] at h; exact .inl h
  | none =>
    rw [e] at h
    dsimp only at h
    split at h
    · rename_i hi; exact .inr ⟨rfl, hi, h⟩
    · cases h
theorem own_list {a : Addr} {i : Nat} (s : SR y lv c σ H) (h : OwnAt c σ i a) : (∃ vs, H a = some (.lst vs)) ∧ NotStr y.sx a := by
  obtain ⟨⟨f, d, hf⟩, hs⟩ := h
  obtain ⟨q, e1, _, _, _, o4, o5⟩ := s.slots i _ hf
  rw [getD_some.mpr hs] at e1
  cases e1
  cases d <;> first | exact o5.elim | exact ⟨⟨_, o5.choose_spec.1⟩, o4⟩
theorem ownA_ok (s : SR y lv c σ H) : Sub (ownA y lv c σ H) H ∧ OffS y.sx (ownA y lv c σ H) ∧ ∀ a xs, ownA y lv c σ H a = some (.tup xs) → y.G lv a = some (.tup xs) := by
  refine ⟨fun a o h => ?_, fun q hq => ?_, fun a xs h => ?_⟩
  · rcases ownA_inv h with h | ⟨_, _, h⟩
    · exact s.top _ _ h
    · exact h
  · have no : ∀ a, (a = q.1 ∨ a = q.2) → ownA y lv c σ H a = none := fun a ha => by
      cases e : ownA y lv c σ H a with
      | none => rfl
      | some o =>
        rcases ownA_inv e with h | ⟨_, ⟨i, h⟩, _⟩
        · obtain ⟨a1, a2, _, _⟩ := s.str.off q hq
          rcases ha with rfl | rfl
          · rw [a1] at h; cases h
          · rw [a2] at h; cases h
        · have := (own_list s h).2 q hq
          rcases ha with z | z
          · exact absurd z this.1
          · exact absurd z this.2
    exact ⟨no _ (.inl rfl), no _ (.inr rfl)⟩
  · rcases ownA_inv h with h | ⟨_, ⟨i, hi⟩, h⟩
    · exact h
    · obtain ⟨⟨vs, hv⟩, _⟩ := own_list s hi
      rw [h] at hv; cases hv
theorem RelO.rpA {r : R} {v : V} {f : Fl} {d : D} (s : SR y lv c σ H) (h : RelO y lv σ r v) (e : Sd.look c r = some (f, d)) : Rp y.sx (ownA y lv c σ H) d v := by
  have up : Sub (regm y.G lv f) (ownA y lv c σ H) := fun a o z => ownA_G (regm_sub _ _ z)
  cases r with
  | val g b =>
    simp only [Sd.look, Option.some.injEq, Prod.mk.injEq] at e
    obtain ⟨rfl, rfl⟩ := e
    exact Rp.mono (Pre.refl _) up _ _ h
  | new g b => exact h.elim
  | bor i =>
    simp only [Sd.look] at e
    split at e
    · rename_i g b hs
      cases e
      obtain ⟨p, e1, _, _, _, _, q2⟩ := s.slots i _ hs
      rw [getD_some.mpr h] at e1
      cases e1
      cases d with
      | lst xs =>
        obtain ⟨vs, a, b⟩ := q2
        simp only [Rp]
        exact ⟨p, vs, rfl, by rw [ownA_own s ⟨⟨f, _, hs⟩, h⟩]; exact a, Rps.mono (Pre.refl _) up _ _ b⟩
      | _ => exact q2.elim
    · rename_i g b hs
      cases e
      obtain ⟨w, e1, q2⟩ := s.slots i _ hs
      rw [getD_some.mpr h] at e1
      cases e1
      exact Rp.mono (Pre.refl _) up _ _ q2
    · cases e
theorem rpsA {rs : List R} {vs : List V} {f : Fl} {ds : List D} (s : SR y lv c σ H) (h : Paired (RelO y lv σ) rs vs) (e : looks c rs = some (f, ds)) : Rps y.sx (ownA y lv c σ H) ds vs := by
  induction h generalizing f ds with
  | nil => simp only [looks, Option.some.injEq, Prod.mk.injEq] at e; obtain ⟨_, rfl⟩ := e; exact Rps.nil
  | @cons r v rs vs h hs ih =>
    simp only [looks] at e
    split at e
    · rename_i f1 d1 g1 ds1 e1 e2
      cases e
      exact .cons (h.rpA s e1) (ih e2)
    · cases e
/-- frozen, the data are as they were -/
theorem frz_eq {lv : Nat} {c c' : C} {r : R} {f : Fl} {d : D} (e : frz lv c r = .ok (f, d) c') : (∃ g, look c r = some (g, d)) ∧ c'.s = c.s ∧ ∀ r2 g d2, look c r2 = some (g, d2) → ∃ g', look c' r2 = some (g', d2) := by
  cases r with
  | val g b => cases e; exact ⟨⟨_, rfl⟩, rfl, fun r2 g d2 h => ⟨g, h⟩⟩
  | new g b => cases e; exact ⟨⟨_, rfl⟩, rfl, fun r2 g d2 h => ⟨g, h⟩⟩
  | bor i =>
    simp only [frz] at e
    split at e
    · rename_i g b hs
      cases e
      refine ⟨⟨g, by simp only [look, hs]⟩, rfl, fun r2 g2 d2 h => ?_⟩
      cases r2 with
      | val g b => exact ⟨_, h⟩
      | new g b => exact ⟨_, h⟩
      | bor j =>
        by_cases hij : i = j
        · subst hij
          simp only [look, hs] at h
          cases h
          have hi := (List.getElem?_eq_some_iff.mp hs).1
          exact ⟨_, by simp only [look]; rw [List.getElem?_set_self hi]⟩
        · refine ⟨g2, ?_⟩
          simp only [look] at h ⊢
          rw [List.getElem?_set_ne hij]; exact h
    · rename_i g b hs
      cases e
      exact ⟨⟨f, by simp only [look, hs]⟩, rfl, fun r2 g d2 h => ⟨g, h⟩⟩
    · cases e
theorem looks_keep {c c' : C} (k : ∀ r2 g d2, look c r2 = some (g, d2) → ∃ g', look c' r2 = some (g', d2)) : ∀ {rs : List R} {f : Fl} {ds : List D}, looks c rs = some (f, ds) → ∃ g, looks c' rs = some (g, ds)
  | [], f, ds, e => by simp only [looks, Option.some.injEq, Prod.mk.injEq] at e; obtain ⟨_, rfl⟩ := e; exact ⟨_, rfl⟩
  | r :: rs, f, ds, e => by
    simp only [looks] at e
    split at e
    · rename_i f1 d1 g1 ds1 e1 e2
      cases e
      obtain ⟨g2, h2⟩ := k _ _ _ e1
      obtain ⟨g3, h3⟩ := looks_keep k e2
      exact ⟨g2.join g3, by simp only [looks, h2, h3]⟩
    · cases e
theorem pairedO {y y' : Dy} {c c' : C} {H H' : Hp} (x : Ext y lv y') (s : SR y lv c σ H) (s' : SR y' lv c' σ H') : ∀ {rs : List R} {vs : List V}, Paired (RelO y lv σ) rs vs → Paired (RelO y' lv σ) rs vs
  | _, _, .nil => .nil
  | _, _, .cons a t => .cons (a.ext x s s') (pairedO x s s' t)
theorem frzs_go {W' : Exn → C → Prop} : ∀ {rs : List R} {vs : List V} {y : Dy} {c : C} {g : Fl} {ds : List D} {K : Fl × List D → C → Prop}, SR y lv c σ H → Paired (RelO y lv σ) rs vs → looks c rs = some (g, ds) → Post (frzs lv rs c) W' K →
    ∃ f c' y', K (f, ds) c' ∧ Ext y lv y' ∧ SR y' lv c' σ H ∧ Rps y'.sx (regm y'.G lv f) ds vs ∧ c'.s = c.s ∧ ∀ r2 g d2, look c r2 = some (g, d2) → ∃ g', look c' r2 = some (g', d2)
  | [], vs, y, c, g, ds, K, s, h, e, q => by
    cases h
    simp only [looks, Option.some.injEq, Prod.mk.injEq] at e
    obtain ⟨_, rfl⟩ := e
    exact ⟨_, c, y, q, Ext.refl, s, Rps.nil, rfl, fun r2 g d2 h => ⟨g, h⟩⟩
  | r :: rs, [], y, c, g, ds, K, s, h, e, q => by cases h
  | r :: rs, v :: vs', y, c, g, ds, K, s, hh, e, q => by
    obtain ⟨h, hs⟩ : RelO y lv σ r v ∧ Paired (RelO y lv σ) rs vs' := by cases hh with | cons a b => exact ⟨a, b⟩
    simp only [looks] at e
    split at e
    · rename_i f1 d1 g1 ds1 e1 e2
      cases e
      simp only [frzs] at q
      rw [Post.bind] at q
      have rr : RelR y lv c σ H r v := by
        cases r with
        | val f d => exact h
        | new f d => exact h.elim
        | bor i => exact h
      cases ef : frz lv c r with
      | ok fd c1 =>
        obtain ⟨f, d⟩ := fd
        obtain ⟨⟨g0, l0⟩, sc, kp⟩ := frz_eq ef
        rw [e1] at l0
        cases l0
        obtain ⟨f', d', c', y', ⟨z1, z2⟩, x, s', r'⟩ := frz_ok (W := W') (K := fun fd c => fd = (f, d1) ∧ c = c1) s rr (by rw [ef]; exact ⟨rfl, rfl⟩)
        cases z1; cases z2
        rw [ef] at q
        have q : Post ((frzs lv rs c1).bind fun (g, ds) c => .ok (f.join g, d1 :: ds) c) W' K := q
        rw [Post.bind] at q
        obtain ⟨g3, h3⟩ := looks_keep kp e2
        have hs' : Paired (RelO y' lv σ) rs vs' := pairedO x s s' hs
        obtain ⟨f2, c2, y2, k2, x2, s2, r2, sc2, kp2⟩ := frzs_go s' hs' h3 q
        refine ⟨_, c2, y2, k2, x.trans x2, s2, .cons (Rp.mono (Pre.refl _) (regm_join_l s2.g) _ _ (Rp.ext x2 s' s2 r')) (Rps.mono (Pre.refl _) (regm_join_r s2.g) _ _ r2), sc2.trans sc, fun r3 g4 d4 h4 => ?_⟩
        obtain ⟨g5, h5⟩ := kp _ _ _ h4
        exact kp2 _ _ _ h5
      | exc e c1 =>
        cases r with
        | val f d => simp [frz] at ef
        | new f d => simp [frz] at ef
        | bor i => simp only [frz] at ef; split at ef <;> cases ef
      | stuck => rw [ef] at q; exact q.elim
    · cases e
end
end Sd

/-! Sd12: a def's call. -/
namespace Sd
open PySem PySem.Spec PyProof.Rows L2

/-- a def as it is called in X -/
structure Cal (X : Cx) (ct : Ct) (cl : Caller) (sg : Sig) (k : Nat) (x : Str) : Prop where
  ex : ∃ fa fd, X.mg x = some (.ref fa) ∧ PySem.W.keepIn X.K (.ref fa) = true ∧ PlainPs fd.params ∧ fd.defaults = .none ∧ fd.params.args.map (·.arg) = sg x ∧ (sg x).Nodup ∧ FnG X.prog X.w X.K X.mg X.base (L2.CX X.prog X.w) k fa fd (sg x) (spF ct (cl x) (sg x).length)
theorem vals_perm {ps ks : List Str} {vs zs : List V} {us ws : List Value} (r : Vals vs us) (rz : Vals zs ws) : Vals (perm .non ps ks vs zs) (perm .none ps ks us ws) := by
  unfold perm
  refine r.append ?_
  rw [r.length]
  generalize ps.drop us.length = qs
  have lk : ∀ q : Str, RelV (((ks.zip zs).lookup q).getD .non) (((ks.zip ws).lookup q).getD .none) := fun q => by
    induction rz generalizing ks with
    | nil => simp only [List.zip_nil_right, List.lookup_nil, Option.getD_none]; rfl
    | cons a t ih =>
      cases ks with
      | nil => simp only [List.zip_nil_left, List.lookup_nil, Option.getD_none]; rfl
      | cons k ks =>
        simp only [List.zip_cons_cons, List.lookup_cons]
        split
        · exact a
        · exact ih
  induction qs with
  | nil => exact .nil
  | cons q qs ih => exact .cons (lk q) ih
theorem rps_perm {sx : List (Addr × Addr)} {G : Hp} {ps ks : List Str} {ds dk : List D} {vs zs : List V} (r : Rps sx G ds vs) (rz : Rps sx G dk zs) : Rps sx G (perm .non ps ks ds dk) (perm .non ps ks vs zs) := by
  unfold perm
  refine r.append ?_
  rw [r.length]
  generalize ps.drop ds.length = qs
  have lk : ∀ (q : Str) (ks : List Str) (dk : List D) (zs : List V), Rps sx G dk zs → Rp sx G (((ks.zip dk).lookup q).getD .non) (((ks.zip zs).lookup q).getD .non) := fun q ks dk => by
    induction dk generalizing ks with
    | nil => intro zs h; simp only [Rps] at h; subst h; simp [Rp]
    | cons d dk ih =>
      intro zs h
      obtain ⟨v, r, rfl, h1, h2⟩ := h.inv
      cases ks with
      | nil => simp [Rp]
      | cons k ks =>
        simp only [List.zip_cons_cons, List.lookup_cons]
        split
        · exact h1
        · exact ih ks r h2
  induction qs with
  | nil => exact Rps.nil
  | cons q qs ih => exact .cons (lk q ks dk zs rz) ih
section
variable {X : Cx} {CX : CXT} {k : Nat} {f : Addr} {fd : FuncData} {ps ks : List Str} {sp : Sp} {E : L2.St → XK} {x : Str} {p pos : Pos} {es : List Expr} {kws : List Keyword} {t tk : TA}
theorem run_fnP {pins : List (Addr × Obj)} {σ : L2.St} {H : Hp} {s : Shared} {Q : VK} {us ws : List Value} {vs zs : List V} (F : FnG X.prog X.w X.K X.mg X.base CX k f fd ps sp) (hr : RoomG k X.A) (pl : PlainPs fd.params) (hd : fd.defaults = .none) (hps : fd.params.args.map (·.arg) = ps) (nd : ps.Nodup)
    (hx : PassesAt CX X σ (E σ)) (I : Inv X pins σ H s) (r : Vals vs us) (rz : Vals zs ws) (ok : permOk ps ks vs.length zs.length = true) (h : sp (perm .non ps ks vs zs) H Q (E σ)) :
    wpAny (model X.prog X.w) X.A (call (.ref f) us (ks.zip ws)) (EP X pins σ Q) X.xe s := by
  rw [r.length, rz.length] at ok
  have b : BindsTo s fd ⟨us, ks.zip ws⟩ (ps.zip (perm .none ps ks us ws)) := BindsTo.of_eq (bind_plain pl hd hps nd ok)
  refine wpAny_call (codeAny_mono (F.run (A := X.A) (Q := Q) (E := E σ) hr I.env0 b (vals_perm r rz) h) fun r s' hq => ?_)
  cases r with
  | error e => exact hx pins H s e s' I hq
  | ok fl =>
    cases fl with
    | ret u => exact I.after hq
    | next => exact False.elim hq
    | brk => exact False.elim hq
    | cont => exact False.elim hq
def tCallP (ps ks : List Str) (sp : Sp) (E : L2.St → XK) (t tk : TA) : TE := fun σ H Q => t σ H fun vs H1 => tk σ H1 fun zs H2 => permOk ps ks vs.length zs.length = true ∧ sp (perm .non ps ks vs zs) H2 Q (E σ)
theorem pe_callP (F : FnG X.prog X.w X.K X.mg X.base CX k f fd ps sp) (hr : RoomG k X.A) (hg : Gl X x) (hm : X.mg x = some (.ref f)) (hk : PySem.W.keepIn X.K (.ref f) = true) (pl : PlainPs fd.params) (hd : fd.defaults = .none) (hps : fd.params.args.map (·.arg) = ps) (nd : ps.Nodup)
    (hx : ∀ σ, PassesAt CX X σ (E σ)) (ha : PA X es t) (hkw : PK X kws tk) (hall : (backToKw pos (keywordEach kws X.env)).all (·.1.isSome) = true) (hks : (backToKw pos (keywordEach kws X.env)).filterMap (·.1) = ks)
    (hdb : (x == ("__debug__" : Str)) = false) (hs : es.any isStar = false) (hn : es = [] → ∀ σ H Q, t σ H Q → Q [] H) : PE X (.Call (.Name x p) es kws pos) (tCallP ps ks sp E t tk) := by
  have hpl : ((backTo pos (starEach es X.env)).any (·.1) || (backToKw pos (keywordEach kws X.env)).any (·.1.isNone)) = false := by
    rw [noStar hs, Bool.false_or, List.any_eq_false]
    intro z hz
    have := List.all_eq_true.mp hall z hz
    cases hz1 : z.1 with
    | none => rw [hz1] at this; cases this
    | some o => simp
  refine ⟨fun pins s σ H Q I h => ?_⟩
  refine wpAny_Call_Name_kw (ld_glob I hg hm ?_ hdb)
  cases es with
  | nil =>
    refine PySem.W.callWith_KW0 (h₀ := X.base) I.ok.mod.kin hk hall ?_ hpl
    have q := hn rfl _ _ _ h
    refine thn (hkw.run pos pins s σ H _ I q) fun ws s2 ⟨zs, H2, I2, rz, ok, q2⟩ => ⟨I2.kIn, ?_⟩
    rw [hks]
    exact run_fnP (us := []) (vs := []) F hr pl hd hps nd (hx σ) I2 .nil rz ok q2
  | cons e es =>
    have h1 : isStar e = false ∧ es.any isStar = false := by simpa using hs
    refine PySem.W.callWith_KW (h₀ := X.base) I.ok.mod.kin hk hall (thn (ha.run pos pins s σ H _ I h) fun us s1 ⟨vs, H1, I1, r, q⟩ => ?_) hpl (notStar h1.1)
    refine thn (hkw.run pos pins s1 σ H1 _ I1 q) fun ws s2 ⟨zs, H2, I2, rz, ok, q2⟩ => ⟨I2.kIn, ?_⟩
    rw [hks]
    exact run_fnP F hr pl hd hps nd (hx σ) I2 r rz ok q2
end

/-! ### by the evaluator -/
theorem kwAll {kws : List Keyword} {ks : List Str} {env : Env} {pos : Pos} (h : kwNames kws = some ks) : (backToKw pos (keywordEach kws env)).all (·.1.isSome) = true ∧ (backToKw pos (keywordEach kws env)).filterMap (·.1) = ks := by
  unfold kwNames at h
  induction kws generalizing ks with
  | nil => simp only [List.mapM_nil, Option.pure_def, Option.some.injEq] at h; subst h; exact ⟨rfl, rfl⟩
  | cons kw kws ih =>
    rw [List.mapM_cons] at h
    obtain ⟨nm, v, kp⟩ := kw
    cases nm with
    | none => simp at h
    | some x =>
      cases e : kws.mapM (fun k => k.arg) with
      | none => rw [e] at h; simp at h
      | some r =>
        rw [e] at h
        simp at h
        subst h
        obtain ⟨h1, h2⟩ := ih e
        refine ⟨?_, ?_⟩
        · show ((some x, _) :: backToKw pos (keywordEach kws env)).all (·.1.isSome) = true
          rw [List.all_cons, h1]; rfl
        · show ((some x, _) :: backToKw pos (keywordEach kws env)).filterMap (·.1) = x :: r
          rw [List.filterMap_cons, h2]
theorem _root_.L2.PK.conseq {X : Cx} {es : List Keyword} {t t' : TA} (h : PK X es t) (i : ∀ σ H Q, t' σ H Q → t σ H Q) : PK X es t' := ⟨fun pos pins s σ H Q I hw => h.run pos pins s σ H Q I (i _ _ _ hw)⟩
section
variable {X : Cx} {ct : Ct} {cl : Caller} {sg : Sig} {W : WX} {lv : Nat} {y : Dy} {c : C} {σ : L2.St} {H : Hp}
theorem k_nil : PK X [] (tAo ct cl sg W lv []) := pk_nil.conseq fun σ H Q ⟨y, c, s, h⟩ => by
  simp only [evA] at h
  exact h y [] H Ext.refl s .nil
theorem k_cons {a : IE} {as : List IE} {e : Expr} {kws : List Keyword} {nm : Option Str} {kp : Pos} (ha : PE X e (tE ct cl sg W lv a)) (hr : PK X kws (tAo ct cl sg W lv as)) : PK X (⟨nm, e, kp⟩ :: kws) (tAo ct cl sg W lv (a :: as)) :=
  (pk_cons ha hr).conseq fun σ H Q ⟨y, c, s, h⟩ => by
    simp only [evA] at h
    refine goOB s h fun ra c1 y1 v H1 x1 s1 r1 q1 => ?_
    rw [Post.bind] at q1
    exact ⟨y1, c1, s1, q1.imp (XW.ext x1) fun rs c2 q2 y2 vs H2 x2 s2 r2 => q2 y2 (v :: vs) H2 (x1.trans x2) s2 (.cons (r1.ext x2 s1 s2) r2)⟩
theorem looks_len {c : C} : ∀ {rs : List R} {f : Fl} {ds : List D}, looks c rs = some (f, ds) → ds.length = rs.length
  | [], f, ds, e => by simp only [looks, Option.some.injEq, Prod.mk.injEq] at e; obtain ⟨_, rfl⟩ := e; rfl
  | r :: rs, f, ds, e => by
    simp only [looks] at e
    split at e
    · rename_i f1 d1 g1 ds1 e1 e2
      cases e
      simp [looks_len e2]
    · cases e
/-- behind the arguments: the def runs -/
theorem call_go {cf : List D → List Stm → Option (Fl × D × List Stm ⊕ Exn × List Stm)} {ps ks : List Str} {ra rk : List R} {vs zs : List V} {g h : Fl} {ds dk args : List D} {Q : VK} (s : SR y lv c σ H) (r1 : Paired (RelO y lv σ) ra vs) (r2 : Paired (RelO y lv σ) rk zs)
    (e1 : looks c ra = some (g, ds)) (e2 : looks c rk = some (h, dk)) (e3 : byName ps ds ks dk = some args)
    (q : Post (match cf args c.s with
        | some (.inl (fl, d, s)) => backF lv fl d ra rk c fun f c => .ok (rv f d) { c with s := s }
        | some (.inr (e, s)) => backF lv e.fl e.arg ra rk c fun f c => .exc { e with fl := f } { c with s := s }
        | none => .stuck) (XW ct lv y σ W) fun r c' => ∀ y' v H', Ext y lv y' → SR y' lv c' σ H' → RelR y' lv c' σ H' r v → Q v H') :
    permOk ps ks vs.length zs.length = true ∧ spF ct cf ps.length (perm .non ps ks vs zs) H Q (WE W σ) := by
  have l1 := looks_len e1
  have l2 := looks_len e2
  have p1 := r1.length
  have p2 := r2.length
  have ok : permOk ps ks ds.length dk.length = true ∧ args = perm .non ps ks ds dk := by
    unfold byName at e3
    split at e3
    · rename_i h; cases e3; exact ⟨h, rfl⟩
    · cases e3
  obtain ⟨ok, rfl⟩ := ok
  refine ⟨by rw [← p1, ← p2, ← l1, ← l2]; exact ok, ?_⟩
  have hlen : (perm D.non ps ks ds dk).length = ps.length := by
    unfold permOk at ok
    simp only [Bool.and_eq_true, decide_eq_true_eq] at ok
    unfold perm
    rw [List.length_append, List.length_map, List.length_drop]
    omega
  have strO : StrO y.sx c.s H := ⟨s.str.len, s.str.at_, s.str.nd⟩
  have ra' := rpsA s r1 e1
  have rk' := rpsA s r2 e2
  obtain ⟨a1, a2, a3⟩ := ownA_ok s
  -- with what was passed: frozen first
  have frzd : ∀ {K : Fl → C → Out R}, Post ((frzs lv ra c).bind fun (g, _) c => (frzs lv rk c).bind fun (h, _) c => K ((g.join h).join (.at lv)) c) (XW ct lv y σ W) (fun r c' => ∀ y' v H', Ext y lv y' → SR y' lv c' σ H' → RelR y' lv c' σ H' r v → Q v H') →
      ∃ fj c' y', Ext y lv y' ∧ SR y' lv c' σ H ∧ c'.s = c.s ∧ y'.sx = y'.sx ∧ Rps y'.sx (regm y'.G lv fj) ds vs ∧ Rps y'.sx (regm y'.G lv fj) dk zs ∧ Post (K (fj.join (.at lv)) c') (XW ct lv y' σ W) fun r c' => ∀ y2 v H', Ext y' lv y2 → SR y2 lv c' σ H' → RelR y2 lv c' σ H' r v → Q v H' := fun {K} z => by
    rw [Post.bind] at z
    obtain ⟨f1, c1, y1, k1, x1, s1, w1, sc1, kp1⟩ := frzs_go s r1 e1 z
    dsimp only at k1
    rw [Post.bind] at k1
    obtain ⟨g3, h3⟩ := looks_keep kp1 e2
    obtain ⟨f2, c2, y2, k2, x2, s2, w2, sc2, kp2⟩ := frzs_go s1 (pairedO x1 s s1 r2) h3 k1
    exact ⟨f1.join f2, c2, y2, x1.trans x2, s2, sc2.trans sc1, rfl, Rps.mono (Pre.refl _) (regm_join_l s2.g) _ _ (Rps.ext x2 s1 s2 w1), Rps.mono (Pre.refl _) (regm_join_r s2.g) _ _ w2, k2.imp (XW.ext (x1.trans x2)) fun r c' k => KE (x1.trans x2) k⟩
  have hx : ∀ {y' : Dy} {c' : C} {A H' B : Hp} {e : Exn} {f : Fl} {sx' : List (Addr × Addr)} {s' : List Stm} {cv : Value} {d : Option Addr}, Ext y lv y' → SR y' lv c' σ H → XW ct lv y' σ W { e with fl := f } { c' with s := s' } → Aft y'.sx s' sx' H H' → Back A e.fl sx' H H' B →
      (∀ v, Rp sx' B e.arg v → Rp sx' (regm (mixG y'.G lv B H) lv f) e.arg v) → ExB ct sx' B H' e cv d → W cv d σ H' := fun {y' c' A H' B e f sx' s' cv d} x s' z af bk up ⟨C0, fld, dx, v, b1, b2, b3, b4, b5⟩ => by
    obtain ⟨x2, s2⟩ := s'.called af bk
    exact z _ H' cv d x2 s2 ⟨C0, fld, dx, v, b1, b2, b3, b4, up v b5⟩
  cases e4 : cf (perm D.non ps ks ds dk) c.s with
  | none => rw [e4] at q; exact q.elim
  | some o =>
    rw [e4] at q
    cases o with
    | inl o =>
      obtain ⟨fl, d, s'⟩ := o
      dsimp only [backF] at q
      split at q
      · rename_i hd
        have hd : imm d = true ∨ 1 ≤ fl.lo := by simpa using hd
        refine ⟨y.sx, c.s, _, _, hlen, a1, a2, strO, rps_perm ra' rk', ?_⟩
        rw [e4]
        intro v H' sx' B af bk r
        obtain ⟨x2, s2⟩ := s.called af bk
        exact q _ v H' x2 s2 (val_ok s2 (back_alone (s' := s') s bk a3 hd r))
      · obtain ⟨fj, c1, y1, x1, s1, sc, _, w1, w2, q1⟩ := frzd (K := fun f c => .ok (rv f d) { c with s := s' }) q
        refine ⟨y1.sx, c.s, _, regm y1.G lv fj, hlen, regm_sub.trans s1.top, fun z hz => ?_, by rw [← sc]; exact ⟨s1.str.len, s1.str.at_, s1.str.nd⟩, rps_perm w1 w2, ?_⟩
        · obtain ⟨b1, b2, _, _⟩ := s1.str.off z hz
          exact ⟨Sub.none regm_sub b1, Sub.none regm_sub b2⟩
        · rw [e4]
          intro v H' sx' B af bk r
          obtain ⟨x2, s2⟩ := s1.called af bk
          exact q1 _ v H' x2 s2 (val_ok s2 (back_with (s' := s') s1 bk r))
    | inr o =>
      obtain ⟨e, s'⟩ := o
      dsimp only [backF] at q
      split at q
      · rename_i hd
        have hd : imm e.arg = true ∨ 1 ≤ e.fl.lo := by simpa using hd
        refine ⟨y.sx, c.s, _, _, hlen, a1, a2, strO, rps_perm ra' rk', ?_⟩
        rw [e4]
        intro cv d H' sx' B af bk r
        exact hx Ext.refl s q af bk (fun v r => back_alone (s' := s') s bk a3 hd r) r
      · obtain ⟨fj, c1, y1, x1, s1, sc, _, w1, w2, q1⟩ := frzd (K := fun f c => .exc { e with fl := f } { c with s := s' }) q
        refine ⟨y1.sx, c.s, _, regm y1.G lv fj, hlen, regm_sub.trans s1.top, fun z hz => ?_, by rw [← sc]; exact ⟨s1.str.len, s1.str.at_, s1.str.nd⟩, rps_perm w1 w2, ?_⟩
        · obtain ⟨b1, b2, _, _⟩ := s1.str.off z hz
          exact ⟨Sub.none regm_sub b1, Sub.none regm_sub b2⟩
        · rw [e4]
          intro cv d H' sx' B af bk r
          exact hx x1 s1 q1 af bk (fun v r => back_with (s' := s') s1 bk r) r
theorem e_call {k : Nat} {x : Str} {as kas : List IE} {ks : List Str} {es : List Expr} {kws : List Keyword} {p pos : Pos} (hr : RoomG k X.A) (tk : Takes X W) (F : Cal X ct cl sg k x) (hg : Gl X x) (hdb : (x == ("__debug__" : Str)) = false)
    (ha : PA X es (tAo ct cl sg W lv as)) (hl : as.length = es.length) (hs : es.any isStar = false) (hk : PK X kws (tAo ct cl sg W lv kas)) (hn : kwNames kws = some ks) : PE X (.Call (.Name x p) es kws pos) (tE ct cl sg W lv (.call x as ks kas)) := by
  obtain ⟨fa, fd, f1, f2, f3, f4, f5, f6, f7⟩ := F.ex
  obtain ⟨k1, k2⟩ := kwAll (env := X.env) (pos := pos) hn
  refine (pe_callP (E := WE W) f7 hr hg f1 f2 f3 f4 f5 f6 (fun σ => passAt tk σ) ha hk k1 k2 hdb hs (fun e σ H Q ⟨y, c, s, h⟩ => ?_)).conseq fun σ H Q ⟨y, c, s, h⟩ => ?_
  · subst e
    match as, hl with
    | [], _ =>
      simp only [evA] at h
      exact h y [] H Ext.refl s .nil
  · simp only [evE] at h
    rw [Post.bind] at h
    refine ⟨y, c, s, h.imp (fun _ _ z => z) fun ra c1 q1 y1 vs H1 x1 s1 r1 => ?_⟩
    rw [Post.bind] at q1
    refine ⟨y1, c1, s1, q1.imp (XW.ext x1) fun rk c2 q2 y2 zs H2 x2 s2 r2 => ?_⟩
    split at q2
    · rename_i g ds h dk e1 e2
      split at q2
      · rename_i args e3
        exact call_go s2 (pairedO x2 s1 s2 r1) r2 e1 e2 e3 (q2.imp (XW.ext (x1.trans x2)) fun r c' k => KE (x1.trans x2) k)
      · exact q2.elim
    · exact q2.elim
end
end Sd

/-! Sd13: what loops walk: enumerate with a start, zip, of lists and tuples alike. -/
namespace Sd
open PySem PySem.Spec PyProof.Rows L2

/-- a list (tuple) of these items at a -/
def SeqH (tup : Bool) (H : Hp) (a : Addr) (xs : List V) : Prop := H a = some (if tup then .tup xs else .lst xs)
/-- its iterator at turn i -/
def SeqIt (tup : Bool) (h : Heap) (it a : Addr) (i : Nat) : Prop := if tup then h.IsTupleIter it a i else h.IsListIter it a i
def SeqAt (tup : Bool) (h : Heap) (a : Addr) (its : Array Value) : Prop := if tup then h.IsTuple a its else h.IsList a its
theorem seq_val {X : Cx} {pins : List (Addr × Obj)} {σ : L2.St} {H : Hp} {s : Shared} {tup : Bool} {a : Addr} {xs : List V} (I : Inv X pins σ H s) (h : SeqH tup H a xs) : ∃ its : List Value, Vals xs its ∧ SeqAt tup s.heap a its.toArray := by
  cases tup with
  | false => obtain ⟨its, r, p, _⟩ := I.list (SqL.of h); exact ⟨its, r, p.isList⟩
  | true => obtain ⟨its, r, p, _⟩ := I.tuple (SqT.of h); exact ⟨its, r, p⟩
theorem seq_draws {prog : Program} {w : World} {A : Around} {tup : Bool} (hh : A.handled = none) (it a : Addr) (hne : a ≠ it) (its : Array Value) :
    Draws prog w A it [it, a] its.size (fun i v => its[i]? = some v) (fun i h => SeqIt tup h it a i ∧ SeqAt tup h a its) := by
  cases tup with
  | false => exact Draws.list hh it a hne its
  | true => exact Draws.tuple hh it a hne its
theorem seqIt_at {tup : Bool} {h h' : Heap} {it a : Addr} {i : Nat} (x : SeqIt tup h it a i) (k : ∀ o, h.get? it = some o → h'.get? it = some o) : SeqIt tup h' it a i := by
  cases tup with
  | false => exact Heap.IsListIter.at x k
  | true => exact Heap.IsTupleIter.at x k
theorem seqIt_obj {tup : Bool} {h : Heap} {it a : Addr} {i : Nat} (x : SeqIt tup h it a i) : ∃ o, h.get? it = some o ∧ ∀ v, o.data ≠ .cell v := by
  cases tup with
  | false => obtain ⟨o, ho, hc, hd⟩ := (show h.IsListIter it a i from x); exact ⟨o, ho, fun v q => by rw [hd] at q; cases q⟩
  | true => obtain ⟨o, ho, hc, hd⟩ := (show h.IsTupleIter it a i from x); exact ⟨o, ho, fun v q => by rw [hd] at q; cases q⟩
/-- n turns while Gd stands; each a new tuple that P2 tells -/
def Itw (n : Nat) (Gd : Hp → Prop) (P2 : Nat → List V → Prop) : It :=
  ⟨fun i H => Gd H ∧ i < n, fun i H v H' => ∃ T vs, v = .ref T ∧ H T = none ∧ H' = upd H T (.tup vs) ∧ P2 i vs, fun i H => Gd H ∧ i = n⟩
/-- from a walk that makes tuples -/
theorem turn_of {P : Program} {w : World} {K : PySem.W.Frag} {elts : List Expr} {kk : Nat} {tpos : Pos} {n : Nat} {Gd : Hp → Prop} {P2 : Nat → List V → Prop} {e : Addr} {fp wr : List Addr} {tn : Nat → Heap → Prop}
    (mem : e ∈ fp) (sub : ∀ b ∈ wr, b ∈ fp) (obj : ∀ i h, tn i h → ∀ b ∈ fp, ∃ o, h.get? b = some o ∧ ∀ v, o.data ≠ .cell v)
    (keep : ∀ i h h', tn i h → (∀ b ∈ fp, ∀ o, h.get? b = some o → h'.get? b = some o) → tn i h')
    (self : ∀ (A : Around) (i : Nat) (s : Shared) (Q : Value → Shared → Prop) (E : Value → Shared → Prop), tn i s.heap → Q (.ref e) s → wpAny (model P w) A (pyIter (.ref e)) Q E s)
    (hw : ∀ (X : Cx), X.prog = P → X.w = w → X.K = K → X.calm = true → ∀ (i : Nat) (pins : List (Addr × Obj)) (s : Shared) (σ : L2.St) (H : Hp), Inv X pins σ H s → (∀ b ∈ fp, FpOk X pins H b) → tn i s.heap → Gd H →
      ∃ fpW Pt St Mid, WalksT P w X.A e fpW wr n Pt St Mid ∧ St i s.heap ∧ (∀ i h, St i h → tn i h) ∧ ∀ i vals, Pt i vals → ∃ vs, P2 i vs ∧ Vals vs vals.toList ∧ vs.length ≤ 2) :
    Turn P w K (.Tuple elts kk tpos) (Itw n Gd P2) fp e tn where
  mem := mem
  obj := obj
  keep := keep
  item := by
    intro X hP hwo hK hc i pins s σ H E I hf st hg
    subst hP hwo hK
    obtain ⟨fpW, Pt, St, Mid, W, st', back, pt⟩ := hw X rfl rfl rfl hc i pins s σ H I hf st hg.1
    have lts : ∀ b ∈ fp, b < s.heap.objs.size := fun b hb => by obtain ⟨o, ho, _⟩ := obj i _ st b hb; exact Heap.lt_size ho
    refine W.item i s _ _ hg.2 st' fun T vals h' tk hp hT isT mid hk => ⟨_, rfl, ?_⟩
    refine W.go elts kk tpos i T { s with heap := h', toks := tk } _ _ mid fun h'' st2 hk2 => ?_
    obtain ⟨vs, p2, rv, hl⟩ := pt i vals hp
    have isT2 : h''.IsTuple T vals := by
      have ap := W.apart i T h' mid
      exact Heap.IsTuple.at isT fun o ho => hk2 T o ap ho
    have hn : H T = none := I.hok.fresh hT
    have new : ObjOk X.prog X.w (upd H T (.tup vs)) h'' T (.tup vs) := ⟨Nat.le_trans hl (by show 2 ≤ sizeLine; decide), vals.toList, rv, by rw [Array.toArray_toList]; exact isT2⟩
    have I1 : Inv X pins σ (upd H T (.tup vs)) { s with heap := h'', toks := tk } :=
      I.turnedNew (t' := tk) (ch := fp) (fun b o hb q => hk2 b o (fun z => hb (sub b z)) (hk b o (fun z => hb (sub b z)) q)) hf hT new
    refine ⟨.ref T, _, I1, rfl, ⟨T, vs, rfl, hn, rfl, p2⟩, back _ _ st2, fun b hb => ?_⟩
    rw [upd_ne (Nat.ne_of_lt (Nat.lt_of_lt_of_le (lts b hb) hT))]
    exact (hf b hb).1
  done := by
    intro X hP hwo hK hc i pins s σ H E I hf st hg
    subst hP hwo hK
    obtain ⟨hg, rfl⟩ := hg
    obtain ⟨fpW, Pt, St, Mid, W, st', back, pt⟩ := hw X rfl rfl rfl hc i pins s σ H I hf st hg
    exact W.done s _ _ st' fun h' tk hk => ⟨rfl, I.turnedL (t' := tk) (ch := fp) (fun b o hb q => hk b o (fun z => hb (sub b z)) q) hf⟩
  self := self

/-! ### enumerate -/
def PEn (k0 : Int) (xs : List V) : Nat → List V → Prop := fun i vs => ∃ x, xs[i]? = some x ∧ vs = [.int (k0 + (i : Nat)), x]
theorem turn_en {P : Program} {w : World} {K : PySem.W.Frag} {elts : List Expr} {kk : Nat} {tpos : Pos} {tup : Bool} {a e it : Addr} {k0 : Int} {xs : List V} (hne : e ≠ it) :
    Turn P w K (.Tuple elts kk tpos) (Itw xs.length (fun H => SeqH tup H a xs) (PEn k0 xs)) [e, it] e (fun i h => (∃ old, IsEnum h e it (k0 + (i : Nat)) old) ∧ SeqIt tup h it a i) := by
  refine turn_of (wr := [e, it]) (by simp) (fun b hb => hb) (fun i h st b hb => ?_) (fun i h h' st k => ?_) (fun A i s Q E st h => ?_) fun X hP hw hK hc i pins s σ H I hf st hg => ?_
  · obtain ⟨⟨old, he⟩, hi⟩ := st
    rcases (by simpa using hb : b = e ∨ b = it) with z | z
    · rw [z]; exact ⟨_, he, fun v q => nomatch q⟩
    · rw [z]; exact seqIt_obj hi
  · obtain ⟨⟨old, he⟩, hi⟩ := st
    exact ⟨⟨old, k e (by simp) _ he⟩, seqIt_at hi fun o q => k it (by simp) o q⟩
  · obtain ⟨⟨old, he⟩, hi⟩ := st
    exact wpAny_pyIter_enum he h
  · subst hP hw hK
    obtain ⟨its, rv, sa⟩ := seq_val I hg
    have live : ∀ b ∈ [e, it], b ≠ a := fun b hb z => by
      have := (hf b hb).1
      rw [z, (show H a = _ from hg)] at this; cases this
    have hl := rv.length
    have W := WalksT.enumFrom k0 (seq_draws (prog := X.prog) (w := X.w) (tup := tup) (show X.A.in1.handled = none from I.ok.hd hc) it a (Ne.symm (live it (by simp))) its.toArray) e hne
      (fun hm => by
        rcases (by simpa using hm : e = it ∨ e = a) with z | z
        · exact hne z
        · exact live e (by simp) z) (by simp)
    have hsz : its.toArray.size = xs.length := by rw [List.size_toArray, hl]
    rw [hsz] at W
    refine ⟨_, _, _, _, W, ⟨st.1, st.2, sa⟩, fun i h st => ⟨st.1, st.2.1⟩, fun i vals hp => ?_⟩
    obtain ⟨t, x, hx, rfl⟩ := hp
    have hx : its[i]? = some x := by simpa using hx
    have hi : i < xs.length := by rw [hl]; exact (List.getElem?_eq_some_iff.mp hx).1
    obtain ⟨u, hu, ru⟩ := rv.get (List.getElem?_eq_getElem hi)
    rw [hx] at hu; cases hu
    exact ⟨[.int (k0 + (i : Nat)), xs[i]], ⟨xs[i], List.getElem?_eq_getElem hi, rfl⟩, .cons ⟨t, rfl⟩ (.cons ru .nil), by simp⟩

/-! ### zip -/
def PZp (xs ys : List V) : Nat → List V → Prop := fun i vs => ∃ x y, xs[i]? = some x ∧ ys[i]? = some y ∧ vs = [x, y]
theorem turn_zp {P : Program} {w : World} {K : PySem.W.Frag} {elts : List Expr} {kk : Nat} {tpos : Pos} {t1 t2 : Bool} {a b z TI TO i1 i2 : Addr} {xs ys : List V} (nd : [z, TI, TO, i1, i2].Nodup) :
    Turn P w K (.Tuple elts kk tpos) (Itw (min xs.length ys.length) (fun H => SeqH t1 H a xs ∧ SeqH t2 H b ys) (PZp xs ys)) [z, TI, TO, i1, i2] z
      (fun i h => IsZip h z TI TO .none ∧ IsTupOf2 h TI (.ref i1) (.ref i2) ∧ (∃ a1 a2, IsTupOf2 h TO a1 a2) ∧ SeqIt t1 h i1 a i ∧ SeqIt t2 h i2 b i) := by
  have nd' : (z ≠ TI ∧ z ≠ TO ∧ z ≠ i1 ∧ z ≠ i2) ∧ (TI ≠ TO ∧ TI ≠ i1 ∧ TI ≠ i2) ∧ (TO ≠ i1 ∧ TO ≠ i2) ∧ i1 ≠ i2 := by simpa using nd
  obtain ⟨⟨n1, n2, n3, n4⟩, ⟨n5, n6, n7⟩, ⟨n8, n9⟩, n10⟩ := nd'
  refine turn_of (wr := [z, TO, i1, i2]) (by simp) (fun c hc => ?_) (fun i h st c hc => ?_) (fun i h h' st k => ?_) (fun A i s Q E st h => wpAny_pyIter_zip st.1 h) fun X hP hw hK hc i pins s σ H I hf st hg => ?_
  · rcases (by simpa using hc : c = z ∨ c = TO ∨ c = i1 ∨ c = i2) with q | q | q | q <;> (rw [q]; simp)
  · obtain ⟨hz, hTI, ⟨x, y, hTO⟩, h1, h2⟩ := st
    rcases (by simpa using hc : c = z ∨ c = TI ∨ c = TO ∨ c = i1 ∨ c = i2) with q | q | q | q | q
    · rw [q]; exact ⟨_, hz, fun v q => nomatch q⟩
    · rw [q]; exact ⟨_, hTI, fun v q => nomatch q⟩
    · rw [q]; exact ⟨_, hTO, fun v q => nomatch q⟩
    · rw [q]; exact seqIt_obj h1
    · rw [q]; exact seqIt_obj h2
  · obtain ⟨hz, hTI, ⟨x, y, hTO⟩, h1, h2⟩ := st
    exact ⟨k z (by simp) _ hz, k TI (by simp) _ hTI, ⟨x, y, k TO (by simp) _ hTO⟩, seqIt_at h1 fun o q => k i1 (by simp) o q, seqIt_at h2 fun o q => k i2 (by simp) o q⟩
  · subst hP hw hK
    obtain ⟨its, rv, sa⟩ := seq_val I hg.1
    obtain ⟨its2, rv2, sa2⟩ := seq_val I hg.2
    have live : ∀ c ∈ [z, TI, TO, i1, i2], c ≠ a ∧ c ≠ b := fun c hb => by
      have q := (hf c hb).1
      refine ⟨fun z => ?_, fun z => ?_⟩
      · rw [z, (show H a = _ from hg.1)] at q; cases q
      · rw [z, (show H b = _ from hg.2)] at q; cases q
    have hh : X.A.in1.handled = none := I.ok.hd hc
    have l1 := rv.length
    have l2 := rv2.length
    have W := WalksT.zipD2 (fp1 := [i1, a]) (fp2 := [i2, b]) (z := z) (TI := TI) (TO := TO) ⟨Ne.symm n1, Ne.symm n2, n5, n6, by simp, by simp [n3, (live z (by simp)).1], by simp [n8, (live TO (by simp)).1], n7, by simp, by simp [n4, (live z (by simp)).2], by simp [n9, (live TO (by simp)).2],
      by simp [n10, (live i1 (by simp)).2], by simp [Ne.symm n10, (live i2 (by simp)).1]⟩
      (seq_draws (prog := X.prog) (w := X.w) (tup := t1) hh i1 a (Ne.symm (live i1 (by simp)).1) its.toArray) (seq_draws (prog := X.prog) (w := X.w) (tup := t2) hh i2 b (Ne.symm (live i2 (by simp)).2) its2.toArray)
    have hsz : its.toArray.size = xs.length := by rw [List.size_toArray, l1]
    have hsz2 : its2.toArray.size = ys.length := by rw [List.size_toArray, l2]
    rw [hsz, hsz2] at W
    obtain ⟨hz, hTI, hTO, h1, h2⟩ := st
    refine ⟨_, _, _, _, W, ⟨hz, hTI, hTO, ⟨h1, sa⟩, h2, sa2⟩, fun i h st => ⟨st.1, st.2.1, st.2.2.1, st.2.2.2.1.1, st.2.2.2.2.1⟩, fun i vals hp => ?_⟩
    obtain ⟨x, y, hx, hy, rfl⟩ := hp
    have hx : its[i]? = some x := by simpa using hx
    have hy : its2[i]? = some y := by simpa using hy
    have hi : i < xs.length := by rw [l1]; exact (List.getElem?_eq_some_iff.mp hx).1
    have hj : i < ys.length := by rw [l2]; exact (List.getElem?_eq_some_iff.mp hy).1
    obtain ⟨u, hu, ru⟩ := rv.get (List.getElem?_eq_getElem hi)
    obtain ⟨u2, hu2, ru2⟩ := rv2.get (List.getElem?_eq_getElem hj)
    rw [hx] at hu; cases hu
    rw [hy] at hu2; cases hu2
    exact ⟨[xs[i], ys[i]], ⟨xs[i], ys[i], List.getElem?_eq_getElem hi, List.getElem?_eq_getElem hj, rfl⟩, .cons ru (.cons ru2 .nil), by simp⟩

/-! ### the calls -/
theorem seq_begins (tup : Bool) (a : Addr) (its : Array Value) : ∃ o, Begins (.ref a) o (fun h => SeqAt tup h a its) ∧ ∀ h it, h.get? it = some o → SeqIt tup h it a 0 := by
  cases tup with
  | false => exact ⟨_, begins_list a its, fun h it e => ⟨_, e, rfl, rfl⟩⟩
  | true => exact ⟨_, begins_tuple a its, fun h it e => ⟨_, e, rfl, rfl⟩⟩
def iEn (ta : TA) : TI := fun σ H R => ta σ H fun vs H1 => ∃ a xs tup k0, vs = [.ref a, .int k0] ∧ SeqH tup H1 a xs ∧ -(2 ^ 63) ≤ k0 ∧ k0 < 2 ^ 63 ∧ R (Itw xs.length (fun H => SeqH tup H a xs) (PEn k0 xs)) H1
theorem pi_en {X : Cx} {e e2 : Expr} {ta : TA} {p pos tpos : Pos} {elts : List Expr} {kk : Nat} (hg : Gl X "enumerate") (hm : X.mg "enumerate" = none) (ha : PA X [e, e2] ta) (h1 : isStar e = false) (h2 : isStar e2 = false) :
    PI X (.Tuple elts kk tpos) (.Call (.Name "enumerate" p) [e, e2] [] pos) (iEn ta) := by
  refine ⟨fun pins s σ H R I h => ?_⟩
  refine Call_ (ld_blt I hg hm boot_enumerate (PyProof.Rows.callWith_type1 (thn (ha.run pos pins s σ H _ I h) fun us s1 ⟨vs, H1, I1, r1, q1⟩ => ?_) (notStar h1) (noStar (by simp [h2]))))
  obtain ⟨a, xs, tup, k0, rfl, hq, b1, b2, q⟩ := q1
  obtain ⟨u, u2, rfl, ru, ru2⟩ := r1.two
  cases ru
  obtain ⟨t, rfl⟩ := ru2
  obtain ⟨its, rv, sa⟩ := seq_val I1 hq
  obtain ⟨o, B, sit⟩ := seq_begins tup a its.toArray
  refine enum_begins B sa b1 b2 fun h' he ho hsz hk => wpAny_pyIter_enum he ?_
  have I2 : Inv X pins σ H1 { s1 with heap := h' } := I1.kept (t' := s1.toks) hk
  refine ⟨s1.heap.objs.size + 1, [s1.heap.objs.size + 1, s1.heap.objs.size], _, _, H1, rfl, I2, turn_en (Nat.succ_ne_self _), ⟨⟨.none, by simpa using he⟩, sit _ _ ho⟩, fun b hb => ?_, q⟩
  have hle : s1.heap.objs.size ≤ b := by
    rcases (by simpa using hb : b = s1.heap.objs.size + 1 ∨ b = s1.heap.objs.size) with z | z <;> (rw [z]; first | exact Nat.le_add_right _ _ | exact Nat.le_refl _)
  exact I1.fpOk hle (I1.hok.fresh hle)
def iZp (ta : TA) : TI := fun σ H R => ta σ H fun vs H1 => ∃ a b xs ys t1 t2, vs = [.ref a, .ref b] ∧ SeqH t1 H1 a xs ∧ SeqH t2 H1 b ys ∧ R (Itw (min xs.length ys.length) (fun H => SeqH t1 H a xs ∧ SeqH t2 H b ys) (PZp xs ys)) H1
theorem pi_zp {X : Cx} {e e2 : Expr} {ta : TA} {p pos tpos : Pos} {elts : List Expr} {kk : Nat} (hg : Gl X "zip") (hm : X.mg "zip" = none) (ha : PA X [e, e2] ta) (h1 : isStar e = false) (h2 : isStar e2 = false) :
    PI X (.Tuple elts kk tpos) (.Call (.Name "zip" p) [e, e2] [] pos) (iZp ta) := by
  refine ⟨fun pins s σ H R I h => ?_⟩
  refine Call_ (ld_blt I hg hm PyProof.Rows.boot_zip (PyProof.Rows.callWith_type1 (thn (ha.run pos pins s σ H _ I h) fun us s1 ⟨vs, H1, I1, r1, q1⟩ => ?_) (notStar h1) (noStar (by simp [h2]))))
  obtain ⟨a, b, xs, ys, t1, t2, rfl, hq, hq2, q⟩ := q1
  obtain ⟨u, u2, rfl, ru, ru2⟩ := r1.two
  cases ru
  cases ru2
  obtain ⟨its, rv, sa⟩ := seq_val I1 hq
  obtain ⟨its2, rv2, sa2⟩ := seq_val I1 hq2
  obtain ⟨o, B, sit⟩ := seq_begins t1 a its.toArray
  obtain ⟨o2, B2, sit2⟩ := seq_begins t2 b its2.toArray
  refine zip_begins2 B B2 sa sa2 fun h' hz hTI hTO ho ho2 hsz hk => wpAny_pyIter_zip hz ?_
  have I2 : Inv X pins σ H1 { s1 with heap := h' } := I1.kept (t' := s1.toks) hk
  refine ⟨s1.heap.objs.size + 4, [s1.heap.objs.size + 4, s1.heap.objs.size + 2, s1.heap.objs.size + 3, s1.heap.objs.size, s1.heap.objs.size + 1], _, _, H1, rfl, I2, turn_zp ?_, ⟨hz, hTI, ⟨_, _, hTO⟩, sit _ _ ho, sit2 _ _ ho2⟩, fun c hb => ?_, q⟩
  · simp
  · have hle : s1.heap.objs.size ≤ c := by
      rcases (by simpa using hb : c = s1.heap.objs.size + 4 ∨ c = s1.heap.objs.size + 2 ∨ c = s1.heap.objs.size + 3 ∨ c = s1.heap.objs.size ∨ c = s1.heap.objs.size + 1) with z | z | z | z | z <;> (rw [z]; first | exact Nat.le_add_right _ _ | exact Nat.le_refl _)
    exact I1.fpOk hle (I1.hok.fresh hle)
end Sd

/-! Sd14: enumerate of one thing; what loops walk, by the evaluator. -/
namespace Sd
open PySem PySem.Spec PyProof.Rows L2

abbrev enObj (n : Nat) : Obj := { cls := .type "enumerate", data := .fields #[.none, .bool false, .ref n, rawInt 0, .none, .none] }
set_option maxHeartbeats 1000000 in
theorem meets_en1 {v : Value} {ob : Obj} {Hb : Heap → Prop} (Bg : Begins v ob Hb) :
    Meets (Builtin.«enumerate.__new__» ⟨[.type "enumerate", v], []⟩) (fun _ Rr st => Hb st.heap ∧ Rr (.ok (.ret (.ref (st.heap.push ob).objs.size))) { st with heap := (st.heap.push ob).push (enObj st.heap.objs.size) }) :=
  .of_wp fun pr wo Ar Rr st hs => by
    obtain ⟨hp, g, d, tk, os⟩ := st
    obtain ⟨hb, hs⟩ := hs
    have hsub := sub_enumerate
    have qq : ∀ {A2 : Around} {E2 : Value → Shared → Prop} {Q2 : Value → Shared → Prop}, Q2 (.ref hp.objs.size) ⟨hp.push ob, g, d, tk, os⟩ → wpAny (model pr wo) A2 (pyIter v) Q2 E2 ⟨hp, g, d, tk, os⟩ := fun z => Bg.iter pr wo _ _ ⟨hp, g, d, tk, os⟩ _ hb z
    wp_walk using qq
    refine wpAny_stack_any fun sk => wpAny_pure ?_
    split
    · rename_i cc _ _ _ _ _
      cases (cc == Value.type "enumerate")
      · wp_walk using qq
        exact ⟨_, rfl, hs⟩
      · wp_walk using qq
        exact ⟨_, rfl, hs⟩
    · wp_walk using qq
      exact ⟨_, rfl, hs⟩
theorem en1_begins {pr : Program} {wo : World} {Ar : Around} {E : Value → Shared → Prop} {st : Shared} {v : Value} {ob : Obj} {Hb : Heap → Prop} {Q : Value → Shared → Prop} (Bg : Begins v ob Hb) (hb : Hb st.heap)
    (k : ∀ h', IsEnum h' (st.heap.objs.size + 1) st.heap.objs.size 0 .none → h'.get? st.heap.objs.size = some ob → (∀ b o, st.heap.get? b = some o → h'.get? b = some o) → Q (.ref (st.heap.objs.size + 1)) { st with heap := h' }) :
    wpAny (model pr wo) Ar (call (.type "enumerate") [v]) Q E st := by
  refine callType_new PySem.F.called_enumerate (by decide) (PySem.F.typeCall_enumerate_1 _) (PySem.F.newCall_enumerate_1 _) (fun obj => PySem.F.args_object_init_2 obj _) PySem.F.entry_enumerate_new (meets_en1 Bg) ⟨hb, ?_⟩
  have hz : (st.heap.push ob).objs.size = st.heap.objs.size + 1 := Heap.size_push ..
  show _ ∧ _
  rw [hz]
  have he : IsEnum ((st.heap.push ob).push (enObj st.heap.objs.size)) (st.heap.objs.size + 1) st.heap.objs.size 0 .none := by
    have z := Heap.get?_push_size (st.heap.push ob) (o := enObj st.heap.objs.size) rfl
    rw [hz] at z
    exact z
  exact ⟨⟨_, he, rfl⟩, k _ he (Heap.get?_push_of_some _ (Heap.get?_push_size _ Bg.free)) fun b o x => Heap.get?_push_of_some _ (Heap.get?_push_of_some _ x)⟩
def iEn1 (ta : TA) : TI := fun σ H R => ta σ H fun vs H1 => ∃ a xs tup, vs = [.ref a] ∧ SeqH tup H1 a xs ∧ R (Itw xs.length (fun H => SeqH tup H a xs) (PEn 0 xs)) H1
theorem pi_en1 {X : Cx} {e : Expr} {ta : TA} {p pos tpos : Pos} {elts : List Expr} {kk : Nat} (hg : Gl X "enumerate") (hm : X.mg "enumerate" = none) (ha : PA X [e] ta) (h1 : isStar e = false) :
    PI X (.Tuple elts kk tpos) (.Call (.Name "enumerate" p) [e] [] pos) (iEn1 ta) := by
  refine ⟨fun pins s σ H R I h => ?_⟩
  refine Call_ (ld_blt I hg hm boot_enumerate (PyProof.Rows.callWith_type1 (thn (ha.run pos pins s σ H _ I h) fun us s1 ⟨vs, H1, I1, r1, q1⟩ => ?_) (notStar h1) rfl))
  obtain ⟨a, xs, tup, rfl, hq, q⟩ := q1
  obtain ⟨u, rfl, ru⟩ := r1.one
  cases ru
  obtain ⟨its, rv, sa⟩ := seq_val I1 hq
  obtain ⟨o, B, sit⟩ := seq_begins tup a its.toArray
  refine en1_begins B sa fun h' he ho hk => wpAny_pyIter_enum he ?_
  have I2 : Inv X pins σ H1 { s1 with heap := h' } := I1.kept (t' := s1.toks) hk
  refine ⟨s1.heap.objs.size + 1, [s1.heap.objs.size + 1, s1.heap.objs.size], _, _, H1, rfl, I2, turn_en (Nat.succ_ne_self _), ⟨⟨.none, by simpa using he⟩, sit _ _ ho⟩, fun b hb => ?_, q⟩
  have hle : s1.heap.objs.size ≤ b := by
    rcases (by simpa using hb : b = s1.heap.objs.size + 1 ∨ b = s1.heap.objs.size) with z | z <;> (rw [z]; first | exact Nat.le_add_right _ _ | exact Nat.le_refl _)
  exact I1.fpOk hle (I1.hok.fresh hle)
end Sd

/-! Sd15: what loops walk, by the evaluator. -/
namespace Sd
open PySem PySem.Spec PyProof.Rows L2

theorem _root_.L2.PI.or {X : Cx} {tg e : Expr} {t t' : TI} (h : PI X tg e t) (h' : PI X tg e t') : PI X tg e fun σ H R => t σ H R ∨ t' σ H R :=
  ⟨fun pins s σ H R I q => q.elim (h.run pins s σ H R I) (h'.run pins s σ H R I)⟩
/-- J walks these data -/
def ItOk (y : Dy) (lv : Nat) (f : Fl) (xs : List D) (J : It) : Prop :=
  ∃ G Y, Walk J xs.length G Y ∧ (∀ H, Sub (y.G lv) H → G H) ∧ ∀ i H x H', i < xs.length → Sub (y.G lv) H → Y i H x H' → ∃ d, xs[i]? = some d ∧
    ((H' = H ∧ Rp y.sx (regm y.G lv f) d x) ∨ ∃ T vs ds, x = .ref T ∧ H T = none ∧ H' = upd H T (.tup vs) ∧ d = .tup ds ∧ Rps y.sx (regm y.G lv f) ds vs)
section
variable {X : Cx} {ct : Ct} {cl : Caller} {sg : Sig} {W : WX} {lv : Nat} {y : Dy} {c : C} {σ : L2.St} {H : Hp} {tg : Expr}
/-- a walk's item in hand -/
theorem ItOk.step {f : Fl} {y2 : Dy} {c2 : C} {σ2 : L2.St} {H2 H3 : Hp} {x : V} {d : D} (k : Gok y.G lv) (es : Pre y.sx y2.sx) (eg : Gext y.G lv y2.G) (s : SR y2 lv c2 σ2 H2)
    (h : (H3 = H2 ∧ Rp y.sx (regm y.G lv f) d x) ∨ ∃ T vs ds, x = .ref T ∧ H2 T = none ∧ H3 = upd H2 T (.tup vs) ∧ d = .tup ds ∧ Rps y.sx (regm y.G lv f) ds vs) :
    ∃ y3, Ext y2 lv y3 ∧ SR y3 lv c2 σ2 H3 ∧ Rp y3.sx (regm y3.G lv f) d x := by
  rcases h with ⟨rfl, r⟩ | ⟨T, vs, ds, rfl, hn, rfl, rfl, r⟩
  · exact ⟨y2, Ext.refl, s, Rp.mono es (regm_mono k s.g eg) _ _ r⟩
  · obtain ⟨h1, h2, h3, h4, h5⟩ := s.gnone hn
    have s3 := (s.alloc (.tup vs) hn).freeze upd_same h1 h3 h4 h5
    refine ⟨_, Ext.add h1, s3, ?_⟩
    simp only [Rp]
    refine ⟨T, vs, rfl, regm_tup (by rw [addG_top (Nat.le_refl _), upd_same]), ?_⟩
    exact Rps.mono es ((regm_mono k s.g eg).trans (regm_mono s.g (s.g.add h1) (Gext.add h1))) _ _ r
/-- what a loop walks, its reading -/
def tI (ct : Ct) (cl : Caller) (sg : Sig) (W : WX) (lv : Nat) (it : IT) : TI := fun σ H R => ∃ y c, SR y lv c σ H ∧ Post (evIt cl sg lv it c) (XW ct lv y σ W) fun fd c' =>
  ∀ y' H' J, Ext y lv y' → SR y' lv c' σ H' → ItOk y' lv fd.1 fd.2 J → R J H'
theorem itok_list {K : PySem.W.Frag} {f : Fl} {a : Addr} {xs : List D} {vs : List V} (h : y.G lv a = some (.lst vs)) (r : Rps y.sx (regm y.G lv f) xs vs) : ItOk y lv f xs (Itl K a) := by
  refine ⟨fun H => SqL K H a vs, YAt vs, by rw [← r.length]; exact walk_list, fun H s => SqL.of (s _ _ h), fun i H x H' hi s q => ?_⟩
  obtain ⟨rfl, q⟩ := q
  obtain ⟨d, h1, h2⟩ := r.get' q
  exact ⟨d, h1, .inl ⟨rfl, h2⟩⟩
theorem itok_tup {K : PySem.W.Frag} {f : Fl} {a : Addr} {xs : List D} {vs : List V} (h : y.G lv a = some (.tup vs)) (r : Rps y.sx (regm y.G lv f) xs vs) : ItOk y lv f xs (Itt K a) := by
  refine ⟨fun H => SqT K H a vs, YAt vs, by rw [← r.length]; exact walk_tup, fun H s => SqT.of (s _ _ h), fun i H x H' hi s q => ?_⟩
  obtain ⟨rfl, q⟩ := q
  obtain ⟨d, h1, h2⟩ := r.get' q
  exact ⟨d, h1, .inl ⟨rfl, h2⟩⟩
theorem itok_fn {J : It} {n : Nat} {F : Nat → Int} (w : Walk J n (fun _ => True) (YFn fun i => .int (F i))) : ItOk y lv Fl.top ((List.range n).map fun k => D.int (F k)) J := by
  refine ⟨_, _, by rw [List.length_map, List.length_range]; exact w, fun _ _ => trivial, fun i H x H' hi s q => ?_⟩
  obtain ⟨rfl, rfl⟩ := q
  have hi : i < n := by simpa using hi
  exact ⟨.int (F i), by simp [hi], .inl ⟨rfl, by simp [Rp]⟩⟩
theorem walk_w {n : Nat} {Gd : Hp → Prop} {P2 : Nat → List V → Prop} : Walk (Itw n Gd P2) n Gd (fun i H v H' => ∃ T vs, v = .ref T ∧ H T = none ∧ H' = upd H T (.tup vs) ∧ P2 i vs) :=
  ⟨fun i H hi g => ⟨g, hi⟩, fun H g => ⟨g, rfl⟩, fun i H x H' hi g q => q⟩
theorem enmD_len (k : Int) : ∀ xs : List D, (enmD k xs).length = xs.length
  | [] => rfl
  | x :: xs => by simp [enmD, enmD_len (k + 1) xs]
theorem enmD_get : ∀ (xs : List D) (k : Int) (i : Nat) (x : D), xs[i]? = some x → (enmD k xs)[i]? = some (.tup [.int (k + (i : Nat)), x])
  | [], _, _, _, h => by simp at h
  | z :: xs, k, 0, x, h => by simp at h; subst h; simp [enmD]
  | z :: xs, k, i + 1, x, h => by
    have := enmD_get xs (k + 1) i x (by simpa using h)
    simp only [enmD, List.getElem?_cons_succ, this]
    have e : k + 1 + (i : Int) = k + ((i + 1 : Nat) : Int) := by omega
    rw [e]
theorem zipD_len : ∀ xs ys : List D, (zipD xs ys).length = min xs.length ys.length
  | [], _ => by simp [zipD]
  | _ :: _, [] => by simp [zipD]
  | x :: xs, z :: ys => by simp [zipD, zipD_len xs ys]
theorem zipD_get : ∀ (xs ys : List D) (i : Nat) (x z : D), xs[i]? = some x → ys[i]? = some z → (zipD xs ys)[i]? = some (.tup [x, z])
  | [], _, _, _, _, h, _ => by simp at h
  | _ :: _, [], _, _, _, _, h => by simp at h
  | a :: xs, b :: ys, 0, x, z, h, k => by simp at h k; subst h; subst k; simp [zipD]
  | a :: xs, b :: ys, i + 1, x, z, h, k => by
    have := zipD_get xs ys i x z (by simpa using h) (by simpa using k)
    simpa [zipD] using this
theorem itok_en {f : Fl} {a : Addr} {tup : Bool} {k : Int} {xs : List D} {vs : List V} (h : y.G lv a = some (if tup then .tup vs else .lst vs)) (r : Rps y.sx (regm y.G lv f) xs vs) : ItOk y lv f (enmD k xs) (Itw vs.length (fun H => SeqH tup H a vs) (PEn k vs)) := by
  refine ⟨fun H => SeqH tup H a vs, _, by rw [enmD_len, ← r.length]; exact walk_w, fun H s => s _ _ h, fun i H x H' hi s q => ?_⟩
  obtain ⟨T, ws, rfl, hn, rfl, u, hu, rfl⟩ := q
  obtain ⟨d, h1, h2⟩ := r.get' hu
  exact ⟨_, enmD_get xs k i d h1, .inr ⟨T, _, _, rfl, hn, rfl, rfl, .cons (by simp [Rp]) (.cons h2 .nil)⟩⟩
theorem itok_zp {f : Fl} {a b : Addr} {t1 t2 : Bool} {xs zs : List D} {vs ws : List V} (h : y.G lv a = some (if t1 then .tup vs else .lst vs)) (h' : y.G lv b = some (if t2 then .tup ws else .lst ws)) (r : Rps y.sx (regm y.G lv f) xs vs) (r' : Rps y.sx (regm y.G lv f) zs ws) :
    ItOk y lv f (zipD xs zs) (Itw (min vs.length ws.length) (fun H => SeqH t1 H a vs ∧ SeqH t2 H b ws) (PZp vs ws)) := by
  refine ⟨fun H => SeqH t1 H a vs ∧ SeqH t2 H b ws, _, by rw [zipD_len, ← r.length, ← r'.length]; exact walk_w, fun H s => ⟨s _ _ h, s _ _ h'⟩, fun i H x H' hi s q => ?_⟩
  obtain ⟨T, ws, rfl, hn, rfl, u, w, hu, hw, rfl⟩ := q
  obtain ⟨d, h1, h2⟩ := r.get' hu
  obtain ⟨e, h3, h4⟩ := r'.get' hw
  exact ⟨_, zipD_get xs zs i d e h1 h3, .inr ⟨T, _, _, rfl, hn, rfl, rfl, .cons h2 (.cons h4 .nil)⟩⟩
/-- a sequence's data as they lie in the region -/
theorem seq_in {f : Fl} {d : D} {xs : List D} {v : V} (e : seqOf d = some xs) (h : Rp y.sx (regm y.G lv f) d v) : ∃ (a : Addr) (tup : Bool) (vs : List V), v = .ref a ∧ y.G lv a = some (if tup then .tup vs else .lst vs) ∧ Rps y.sx (regm y.G lv f) xs vs := by
  cases d <;> first | (simp [seqOf] at e; done) | skip
  · simp only [seqOf, Option.some.injEq] at e; subst e
    simp only [Rp] at h
    obtain ⟨a, vs, rfl, h1, h2⟩ := h
    exact ⟨a, false, vs, rfl, regm_sub _ _ h1, h2⟩
  · simp only [seqOf, Option.some.injEq] at e; subst e
    simp only [Rp] at h
    obtain ⟨a, vs, rfl, h1, h2⟩ := h
    exact ⟨a, true, vs, rfl, regm_sub _ _ h1, h2⟩

/-! ### the rules -/
theorem i_e {a : IE} {e : Expr} (ha : PE X e (tE ct cl sg W lv a)) : PI X tg e (tI ct cl sg W lv (.e a)) :=
  ((pi_list ha).or (pi_tup ha)).conseq fun σ H R ⟨y, c, s, h⟩ => by
    simp only [evIt] at h
    rw [Post.bind] at h
    cases eo : (evE cl sg lv a c).z lv with
    | stuck => rw [eo] at h; exact h.elim
    | exc ex c1 =>
      rw [eo] at h
      exact .inl (toZ s (by rw [eo]; exact h))
    | ok fd c1 =>
      rw [eo] at h
      obtain ⟨f, d⟩ := fd
      have h : Post ((ofOpt (seqOf d) c1).bind fun xs c => .ok (f, xs) c) (XW ct lv y σ W) _ := h
      rw [Post.bind, Post.ofOpt] at h
      obtain ⟨xs, hx, q⟩ := h
      cases d <;> first | (simp [seqOf] at hx; done) | skip
      · simp only [seqOf, Option.some.injEq] at hx; subst hx
        refine .inl (toZ s ?_)
        rw [eo]
        intro y1 v H1 x1 s1 r1
        simp only [Rp] at r1
        obtain ⟨b, vs, rfl, h1, h2⟩ := r1
        have hg := regm_sub _ _ h1
        exact ⟨b, rfl, ⟨vs, .of (s1.top _ _ hg)⟩, q y1 H1 _ x1 s1 (itok_list hg h2)⟩
      · simp only [seqOf, Option.some.injEq] at hx; subst hx
        refine .inr (toZ s ?_)
        rw [eo]
        intro y1 v H1 x1 s1 r1
        simp only [Rp] at r1
        obtain ⟨b, vs, rfl, h1, h2⟩ := r1
        have hg := regm_sub _ _ h1
        exact ⟨b, rfl, ⟨vs, .of (s1.top _ _ hg)⟩, q y1 H1 _ x1 s1 (itok_tup hg h2)⟩
theorem zlt : (SZ : Int) < 2 ^ 62 := by decide
theorem gds {a b x y : Int} (h : (rOk a && rOk b && dOk x y) = true) : -(SZ : Int) ≤ a ∧ a ≤ SZ ∧ -(SZ : Int) ≤ b ∧ b ≤ SZ ∧ y - x ≤ SZ := by
  rw [Bool.and_eq_true, Bool.and_eq_true, rOk_iff, rOk_iff, dOk_iff] at h
  omega
theorem rngD_1 {d : D} {xs : List D} (h : rngD [d] = some xs) : ∃ n : Int, d = .int n ∧ -(SZ : Int) ≤ n ∧ n ≤ SZ ∧ xs = (List.range n.toNat).map fun (k : Nat) => D.int (k : Int) := by
  cases d <;> first | (simp [rngD] at h; done) | skip
  simp only [rngD] at h
  split at h
  · rename_i hz; cases h; exact ⟨_, rfl, (rOk_iff.mp hz).1, (rOk_iff.mp hz).2, rfl⟩
  · cases h
theorem rngD_2 {d e : D} {xs : List D} (h : rngD [d, e] = some xs) : ∃ a b : Int, d = .int a ∧ e = .int b ∧ (-(SZ : Int) ≤ a ∧ a ≤ SZ ∧ -(SZ : Int) ≤ b ∧ b ≤ SZ ∧ b - a ≤ SZ) ∧ xs = (List.range (b - a).toNat).map fun (k : Nat) => D.int (a + (k : Int)) := by
  cases d <;> first | (simp [rngD] at h; done) | skip
  cases e <;> first | (simp [rngD] at h; done) | skip
  simp only [rngD] at h
  split at h
  · rename_i hz; cases h; exact ⟨_, _, rfl, rfl, gds hz, rfl⟩
  · cases h
theorem rngD_3 {d e g : D} {xs : List D} (h : rngD [d, e, g] = some xs) : ∃ a b : Int, d = .int a ∧ e = .int b ∧ g = .int (-1) ∧ (-(SZ : Int) ≤ a ∧ a ≤ SZ ∧ -(SZ : Int) ≤ b ∧ b ≤ SZ ∧ a - b ≤ SZ) ∧ xs = (List.range (a - b).toNat).map fun (k : Nat) => D.int (a + (k : Int) * (-1)) := by
  unfold rngD at h
  split at h <;> first | (rename_i z; cases z; done) | skip
  · rename_i a b z
    cases z
    split at h
    · rename_i hz; cases h; exact ⟨_, _, rfl, rfl, rfl, gds hz, rfl⟩
    · cases h
  · cases h
theorem i_rng1 {as : List IE} {e : Expr} {p pos : Pos} (hg : Gl X "range") (hm : X.mg "range" = none) (ha : PA X [e] (tAf ct cl sg W lv as)) (hs : isStar e = false) (hl : as.length = 1) : PI X tg (.Call (.Name "range" p) [e] [] pos) (tI ct cl sg W lv (.rng as)) :=
  (pi_range1 hg hm ha (notStar hs)).conseq fun σ H R ⟨y, c, s, h⟩ => by
    simp only [evIt] at h
    rw [Post.bind] at h
    refine ⟨y, c, s, (evF_len h).imp (fun _ _ z => z) fun fd c1 ⟨l1, q1⟩ y1 vs H1 x1 s1 r1 => ?_⟩
    obtain ⟨f, ds⟩ := fd
    rw [Post.bind, Post.ofOpt] at q1
    obtain ⟨xs, hx, q1⟩ := q1
    have zz := zlt
    match ds, l1.trans hl with
    | [d], _ =>
      obtain ⟨n, rfl, z1, z2, rfl⟩ := rngD_1 hx
      have e1 : vs = [.int n] := Rps.ints_inv (ns := [n]) r1
      subst e1
      exact ⟨n, rfl, by omega, by omega, q1 y1 H1 _ x1 s1 (itok_fn (F := fun k => (k : Int)) (walk_range.mono (fun _ h => h) fun i H x H' hi _ q => ⟨q.1, by rw [q.2]; simp⟩))⟩
theorem i_rng2 {as : List IE} {e e2 : Expr} {p pos : Pos} (hg : Gl X "range") (hm : X.mg "range" = none) (ha : PA X [e, e2] (tAf ct cl sg W lv as)) (hs : isStar e = false) (hs2 : isStar e2 = false) (hl : as.length = 2) : PI X tg (.Call (.Name "range" p) [e, e2] [] pos) (tI ct cl sg W lv (.rng as)) :=
  (pi_range2 hg hm ha (by rw [notStar hs, notStar hs2]; rfl) (by rw [notStar hs2]; rfl)).conseq fun σ H R ⟨y, c, s, h⟩ => by
    simp only [evIt] at h
    rw [Post.bind] at h
    refine ⟨y, c, s, (evF_len h).imp (fun _ _ z => z) fun fd c1 ⟨l1, q1⟩ y1 vs H1 x1 s1 r1 => ?_⟩
    obtain ⟨f, ds⟩ := fd
    rw [Post.bind, Post.ofOpt] at q1
    obtain ⟨xs, hx, q1⟩ := q1
    have zz := zlt
    match ds, l1.trans hl with
    | [d, d2], _ =>
      obtain ⟨n, m, rfl, rfl, hz, rfl⟩ := rngD_2 hx
      have e1 : vs = [.int n, .int m] := Rps.ints_inv (ns := [n, m]) r1
      subst e1
      exact ⟨n, m, rfl, ⟨by omega, by omega, by omega, by omega⟩, q1 y1 H1 _ x1 s1 (itok_fn (F := fun k => n + (k : Int)) walk_range)⟩
theorem i_rng3 {as : List IE} {e e2 e3 : Expr} {p pos : Pos} (hg : Gl X "range") (hm : X.mg "range" = none) (ha : PA X [e, e2, e3] (tAf ct cl sg W lv as)) (hs : isStar e = false) (hs2 : isStar e2 = false) (hs3 : isStar e3 = false) (hl : as.length = 3) :
    PI X tg (.Call (.Name "range" p) [e, e2, e3] [] pos) (tI ct cl sg W lv (.rng as)) :=
  (pi_range3 hg hm ha (notStar hs) (noStar (by simp [hs2, hs3]))).conseq fun σ H R ⟨y, c, s, h⟩ => by
    simp only [evIt] at h
    rw [Post.bind] at h
    refine ⟨y, c, s, (evF_len h).imp (fun _ _ z => z) fun fd c1 ⟨l1, q1⟩ y1 vs H1 x1 s1 r1 => ?_⟩
    obtain ⟨f, ds⟩ := fd
    rw [Post.bind, Post.ofOpt] at q1
    obtain ⟨xs, hx, q1⟩ := q1
    have zz := zlt
    match ds, l1.trans hl with
    | [d, d2, d3], _ =>
      obtain ⟨n, m, rfl, rfl, rfl, hz, rfl⟩ := rngD_3 hx
      have e1 : vs = [.int n, .int m, .int (-1)] := Rps.ints_inv (ns := [n, m, -1]) r1
      subst e1
      exact ⟨n, m, -1, _, rfl, RgC.neg (by omega) (by omega) (by omega) (by omega), q1 y1 H1 _ x1 s1 (itok_fn (F := fun k => n + (k : Int) * (-1)) walk_rangeC)⟩
theorem Out.bind_assoc {α β γ : Type} {o : Out α} {f : α → C → Out β} {g : β → C → Out γ} : (o.bind f).bind g = o.bind fun a c => (f a c).bind g := by
  cases o <;> rfl
theorem goZI {a : IE} {Q : VK} {β : Type} {F : Fl × D → C → Out β} {K : β → C → Prop} (s : SR y lv c σ H) (h : Post (((evE cl sg lv a c).z lv).bind F) (XW ct lv y σ W) K)
    (k : ∀ fd c' y' v H', Ext y lv y' → SR y' lv c' σ H' → Rp y'.sx (regm y'.G lv fd.1) fd.2 v → Post (F fd c') (XW ct lv y' σ W) K → Q v H') : tE ct cl sg W lv a σ H Q :=
  goZ s h fun fd c' y' v H' x s' r q => k fd c' y' v H' x s' r (q.imp (XW.ext x) fun _ _ z => z)
theorem i_enm {a k : IE} {e e2 : Expr} {p pos tpos : Pos} {elts : List Expr} {kk : Nat} (hg : Gl X "enumerate") (hm : X.mg "enumerate" = none) (ha : PE X e (tE ct cl sg W lv a)) (hk : PE X e2 (tE ct cl sg W lv k)) (hs : isStar e = false) (hs2 : isStar e2 = false) :
    PI X (.Tuple elts kk tpos) (.Call (.Name "enumerate" p) [e, e2] [] pos) (tI ct cl sg W lv (.enm a [k])) :=
  (pi_en hg hm (pa_cons ha (pa_cons hk pa_nil (notStar hs2)) (notStar hs)) hs hs2).conseq fun σ H R ⟨y, c, s, h⟩ => by
    simp only [evIt] at h
    refine goZI s h fun fd c1 y1 v H1 x1 s1 r1 q1 => ?_
    obtain ⟨f, d⟩ := fd
    simp only [evP] at q1
    rw [Out.bind_assoc] at q1
    refine goOB s1 q1 fun rk c2 y2 v2 H2 x2 s2 r2 q2 => ?_
    split at q2
    · rename_i g k0 h2
      have e2 := intV (r2.vw s2 h2)
      subst e2
      have q2 : Post (if rOk k0 = true then match seqOf d with
        | some xs => .ok (f, enmD k0 xs) c2
        | none => .stuck else .stuck) (XW ct lv y1 σ W) _ := q2
      split at q2
      · rename_i hz
        have hz : -(SZ : Int) ≤ k0 ∧ k0 ≤ SZ := rOk_iff.mp hz
        split at q2
        · rename_i xs hx
          obtain ⟨b, tup, vs, rfl, h3, h4⟩ := seq_in hx (Rp.ext x2 s1 s2 r1)
          have zz := zlt
          exact ⟨b, vs, tup, k0, rfl, s2.top _ _ h3, by omega, by omega, q2 y2 H2 _ (x1.trans x2) s2 (itok_en h3 h4)⟩
        · exact q2.elim
      · exact q2.elim
    · exact q2.elim
theorem i_enm0 {a : IE} {e : Expr} {p pos tpos : Pos} {elts : List Expr} {kk : Nat} (hg : Gl X "enumerate") (hm : X.mg "enumerate" = none) (ha : PE X e (tE ct cl sg W lv a)) (hs : isStar e = false) :
    PI X (.Tuple elts kk tpos) (.Call (.Name "enumerate" p) [e] [] pos) (tI ct cl sg W lv (.enm a [])) :=
  (pi_en1 hg hm (pa_cons ha pa_nil (notStar hs)) hs).conseq fun σ H R ⟨y, c, s, h⟩ => by
    simp only [evIt] at h
    refine goZI s h fun fd c1 y1 v H1 x1 s1 r1 q1 => ?_
    obtain ⟨f, d⟩ := fd
    simp only [evP] at q1
    have q1 : Post (match seqOf d with
        | some xs => .ok (f, enmD 0 xs) c1
        | none => .stuck) (XW ct lv y1 σ W) _ := q1
    split at q1
    · rename_i xs hx
      obtain ⟨b, tup, vs, rfl, h3, h4⟩ := seq_in hx r1
      exact ⟨b, vs, tup, rfl, s1.top _ _ h3, q1 y1 H1 _ x1 s1 (itok_en h3 h4)⟩
    · exact q1.elim
theorem i_zip {a b : IE} {e e2 : Expr} {p pos tpos : Pos} {elts : List Expr} {kk : Nat} (hg : Gl X "zip") (hm : X.mg "zip" = none) (ha : PE X e (tE ct cl sg W lv a)) (hb : PE X e2 (tE ct cl sg W lv b)) (hs : isStar e = false) (hs2 : isStar e2 = false) :
    PI X (.Tuple elts kk tpos) (.Call (.Name "zip" p) [e, e2] [] pos) (tI ct cl sg W lv (.zip a b)) :=
  (pi_zp hg hm (pa_cons ha (pa_cons hb pa_nil (notStar hs2)) (notStar hs)) hs hs2).conseq fun σ H R ⟨y, c, s, h⟩ => by
    simp only [evIt] at h
    refine goZI s h fun fd c1 y1 v H1 x1 s1 r1 q1 => ?_
    obtain ⟨f, d⟩ := fd
    refine goZI s1 q1 fun fd2 c2 y2 v2 H2 x2 s2 r2 q2 => ?_
    obtain ⟨f2, d2⟩ := fd2
    split at q2
    · rename_i xs zs hx hz
      obtain ⟨a1, t1, vs, rfl, h3, h4⟩ := seq_in hx (Rp.ext x2 s1 s2 r1)
      obtain ⟨b1, t2, ws, rfl, h5, h6⟩ := seq_in hz r2
      exact ⟨a1, b1, vs, ws, t1, t2, rfl, s2.top _ _ h3, s2.top _ _ h5, q2 y2 H2 _ (x1.trans x2) s2 (itok_zp h3 h5 (Rps.mono (Pre.refl _) (regm_join_l s2.g) _ _ h4) (Rps.mono (Pre.refl _) (regm_join_r s2.g) _ _ h6))⟩
    · exact q2.elim
end
end Sd

/-! Sd16: targets; a state that a new list is kept beside. -/
namespace Sd
open PySem PySem.Spec PyProof.Rows L2

/-! ### targets -/
def setV (σ : L2.St) : List Nat → List V → L2.St
  | t :: ts, v :: vs => setV (σ.set t (some v)) ts vs
  | _, _ => σ
theorem setTs_len {f : Fl} : ∀ {ts : List Nat} {ds : List D} {r r' : List Slot}, setTs f ts ds r = some r' → ds.length = ts.length
  | [], [], _, _, _ => rfl
  | t :: ts, d :: ds, r, r', h => by
    simp only [setTs] at h
    simp [setTs_len h]
  | [], _ :: _, _, _, h => by simp [setTs] at h
  | _ :: _, [], _, _, h => by simp [setTs] at h
section
variable {X : Cx} {lv : Nat} {y : Dy} {H : Hp}
theorem SR.setTs {f : Fl} : ∀ {ts : List Nat} {ds : List D} {vs : List V} {c : C} {σ : L2.St} {r' : List Slot}, SR y lv c σ H → Rps y.sx (regm y.G lv f) ds vs → Sd.setTs f ts ds c.r = some r' → SR y lv { c with r := r' } (setV σ ts vs) H
  | [], [], vs, c, σ, r', s, r, h => by
    simp only [Sd.setTs, Option.some.injEq] at h
    subst h
    simp only [Rps] at r
    subst r
    exact s
  | t :: ts, d :: ds, vs, c, σ, r', s, r, h => by
    obtain ⟨v, vr, rfl, h1, h2⟩ := r.inv
    simp only [Sd.setTs] at h
    exact SR.setTs (ts := ts) (ds := ds) (c := { c with r := c.r.set t (.sh (nrm d f) d) }) (s.store h1.nrm) h2 h
  | [], _ :: _, _, _, _, _, _, _, h => by simp [Sd.setTs] at h
  | _ :: _, [], _, _, _, _, _, _, h => by simp [Sd.setTs] at h
theorem wipe_set {t : Nat} {o : Option V} : ∀ {σ : L2.St} {own : List Nat}, t ∈ own → wipe (σ.set t o) own = wipe σ own
  | σ, v :: vs, h => by
    unfold wipe
    by_cases hv : t ∈ vs
    · rw [wipe_set hv]
    · have e : t = v := by rcases List.mem_cons.mp h with e | e; exact e; exact absurd e hv
      subst e
      have out : ∀ (vs : List Nat), t ∉ vs → wipe (σ.set t o) vs = (wipe σ vs).set t o := fun vs => by
        induction vs with
        | nil => intro _; rfl
        | cons w ws ih =>
          intro hn
          unfold wipe
          rw [ih (fun z => hn (List.mem_cons_of_mem _ z)), List.set_comm _ _ (by rintro rfl; exact hn List.mem_cons_self)]
      rw [out vs hv, List.set_set]
theorem wipe_setV : ∀ {ts : List Nat} {vs : List V} {σ : L2.St} {own : List Nat}, (∀ t ∈ ts, t ∈ own) → wipe (setV σ ts vs) own = wipe σ own
  | [], _, _, _, _ => rfl
  | _ :: _, [], _, _, _ => rfl
  | t :: ts, v :: vs, σ, own, h => by
    unfold setV
    rw [wipe_setV (fun z hz => h z (List.mem_cons_of_mem _ hz)), wipe_set (h t List.mem_cons_self)]
/-- a target's reading: the data that come are stored -/
def gT (lv : Nat) (f : Fl) (ts : List Nat) (one : Bool) : TG := fun v σ H Q => ∃ y c d r', SR y lv c σ H ∧ Rp y.sx (regm y.G lv f) d v ∧ setTg f ts one d c.r = some r' ∧
  ∀ σ', SR y lv { c with r := r' } σ' H → (∀ own : List Nat, (∀ t ∈ ts, t ∈ own) → wipe σ' own = wipe σ own) → Q σ' H
/-- where targets stand -/
structure TgEnv (X : Cx) (sc : Scope) (N : List Str) : Prop where
  n : X.N = N
  nd : N.Nodup
  sto : ∀ x, isSto sc x = true → Loc X.env.scope x ∧ (X.fn x = true ∨ X.env.scope.names.lookup x = some .local)
theorem slotOf_get {N : List Str} {x : Str} {i : Nat} (h : slotOf N x = some i) : N[i]? = some x := by
  unfold slotOf at h
  obtain ⟨hi, h1, _⟩ := List.findIdx?_eq_some_iff_getElem.mp h
  rw [List.getElem?_eq_getElem hi]
  simpa using h1
theorem g_name {f : Fl} {sc : Scope} {N : List Str} {x : Str} {i : Nat} {pos : Pos} (E : TgEnv X sc N) (hs : isSto sc x = true) (hi : slotOf N x = some i) : PG X (.Name x pos) (gT lv f [i] true) := by
  obtain ⟨h1, h2⟩ := E.sto x hs
  have p : PG X (.Name x pos) (gName i) := pg_name (by rw [E.n]; exact E.nd) (by rw [E.n]; exact slotOf_get hi) h1 h2
  refine ⟨fun pins s σ H v u Q I r ⟨y, c, d, r', sr, rp, e, k⟩ => p.run pins s σ H v u Q I r ?_⟩
  simp only [setTg, if_true] at e
  have z := sr.setTs (Rps.cons rp Rps.nil) e
  exact k _ z fun own ho => wipe_setV (ts := [i]) (vs := [v]) ho
def gNs (ts : List Nat) : TGs := fun vs σ H Q => vs.length = ts.length ∧ Q (setV σ ts vs) H
theorem g_names {sc : Scope} {N : List Str} (E : TgEnv X sc N) : ∀ {es : List Expr} {ts : List Nat}, es.mapM (tgN sc N) = some ts → PGs X es (gNs ts) ∧ (assignEach es X.env).length = ts.length ∧ (assignEach es X.env).findIdx? (·.1) = none
  | [], ts, h => by
    simp only [List.mapM_nil, Option.pure_def, Option.some.injEq] at h
    subst h
    refine ⟨⟨fun pins s σ H vs us Q I r ⟨hl, q⟩ => pgs_nil.run pins s σ H vs us Q I r ?_⟩, rfl, rfl⟩
    match vs, hl with
    | [], _ => exact ⟨rfl, q⟩
  | e :: es, ts, h => by
    rw [List.mapM_cons] at h
    cases e1 : tgN sc N e with
    | none => rw [e1] at h; simp at h
    | some i =>
      cases e2 : es.mapM (tgN sc N) with
      | none => rw [e1, e2] at h; simp at h
      | some is =>
        rw [e1, e2] at h
        simp at h
        subst h
        cases e <;> first | (simp [tgN] at e1; done) | skip
        rename_i x p
        simp only [tgN] at e1
        split at e1
        · rename_i hx
          obtain ⟨h1, h2⟩ := E.sto x hx
          obtain ⟨g1, g2, g3⟩ := g_names E e2
          have p1 : PG X (.Name x p) (gName i) := pg_name (by rw [E.n]; exact E.nd) (by rw [E.n]; exact slotOf_get e1) h1 h2
          have p2 : PGs X (.Name x p :: es) (gCons (gName i) (gNs is)) := pgs_cons p1 g1
          refine ⟨⟨fun pins s σ H vs us Q I r ⟨hl, q⟩ => p2.run pins s σ H vs us Q I r ?_⟩, ?_, ?_⟩
          · match vs, hl with
            | v :: vr, hl => exact ⟨v, vr, rfl, by simpa using hl, q⟩
          · show (assignEach es X.env).length + 1 = _
            rw [g2]; rfl
          · show ((false, _) :: assignEach es X.env).findIdx? (·.1) = none
            rw [List.findIdx?_cons]
            simp [g3]
        · cases e1
theorem g_tuple {f : Fl} {sc : Scope} {N : List Str} {es : List Expr} {ts : List Nat} {k : Nat} {pos : Pos} (hc : X.calm = true) (E : TgEnv X sc N) (h : es.mapM (tgN sc N) = some ts) : PG X (.Tuple es k pos) (gT lv f ts false) := by
  obtain ⟨g1, g2, g3⟩ := g_names E h
  have pt := pg_tup (k := k) (pos := pos) hc g1 g2 g3
  have pl := pg_lst (k := k) (pos := pos) hc g1 g2 g3
  refine ⟨fun pins s σ H v u Q I r ⟨y, c, d, r', sr, rp, e, kk⟩ => ?_⟩
  simp only [setTg, Bool.false_eq_true, if_false] at e
  split at e
  · rename_i xs
    simp only [Rp] at rp
    obtain ⟨a, vs, rfl, h1, h2⟩ := rp
    have hl := setTs_len e
    have z := sr.setTs h2 e
    exact pt.run pins s σ H _ u Q I r ⟨a, vs, rfl, .of (sr.top _ _ (regm_sub _ _ h1)), by rw [h2.length, hl], by rw [h2.length, hl], kk _ z fun own ho => wipe_setV ho⟩
  · rename_i xs
    simp only [Rp] at rp
    obtain ⟨a, vs, rfl, h1, h2⟩ := rp
    have hl := setTs_len e
    have z := sr.setTs h2 e
    exact pl.run pins s σ H _ u Q I r ⟨a, vs, rfl, .of (sr.top _ _ (regm_sub _ _ h1)), by rw [h2.length, hl], by rw [h2.length, hl], kk _ z fun own ho => wipe_setV ho⟩
  · cases e
theorem g_tg {f : Fl} {sc : Scope} {N : List Str} {tg : Expr} {ts : List Nat} {one : Bool} (hc : X.calm = true) (E : TgEnv X sc N) (h : tgOf sc N tg = some (ts, one)) : PG X tg (gT lv f ts one) := by
  cases tg <;> first | (simp [tgOf] at h; done) | skip
  · rename_i x p
    simp only [tgOf] at h
    split at h
    · rename_i hx
      simp only [Option.map_eq_some_iff, Prod.mk.injEq] at h
      obtain ⟨i, hi, rfl, rfl⟩ := h
      exact g_name E hx hi
    · cases h
  · rename_i es k p
    simp only [tgOf, Option.map_eq_some_iff, Prod.mk.injEq] at h
    obtain ⟨is, hi, rfl, rfl⟩ := h
    exact g_tuple hc E hi
end

/-! ### a new list beside -/
/-- the list at A is to stay -/
abbrev Dy.beside (y : Dy) (A : Addr) (acc : List V) : Dy := { y with Z := upd y.Z A (.lst acc), B := upd y.B A (.lst []) }
section
variable {lv : Nat} {y : Dy} {c : C} {σ : L2.St} {H : Hp} {A : Addr} {acc : List V}
theorem upd_none {G : Hp} {p a : Addr} {o : HO} (h : upd G p o a = none) : G a = none ∧ a ≠ p := by
  by_cases e : a = p
  · subst e; rw [upd_same] at h; cases h
  · rw [upd_ne e] at h; exact ⟨h, e⟩
theorem SR.beside (s : SR y lv c σ H) (h : H A = none) : SR (y.beside A acc) lv c σ (upd H A (.lst acc)) := by
  obtain ⟨h1, h2, h3, h4, h5⟩ := s.gnone h
  have s' := s.alloc (.lst acc) h
  refine ⟨s.pos, fun a z => ?_, s.g, s'.top, fun a o z => ?_, fun a z => ?_, fun a o z => ?_, fun i sl hi => ?_, s.inj, ⟨s'.str.len, s'.str.at_, fun q hq => ?_, s'.str.nd⟩, s.len⟩
  · have z : upd y.Z A (.lst acc) a ≠ none := z
    show upd y.B A (.lst []) a ≠ none
    by_cases e : a = A
    · subst e; rw [upd_same]; exact fun z => by cases z
    · rw [upd_ne e] at z ⊢; exact s.zb a z
  · have z : upd y.Z A (.lst acc) a = some o := z
    by_cases e : a = A
    · subst e; rw [upd_same] at z ⊢; exact z
    · rw [upd_ne e] at z; exact s'.prot a o z
  · have z : upd y.B A (.lst []) a ≠ none := z
    by_cases e : a = A
    · subst e; rw [upd_same]; exact fun z => by cases z
    · rw [upd_ne e] at z; exact s'.old a z
  · rcases s.fresh a o z with z' | z'
    · exact .inl z'
    · by_cases e : a = A
      · subst e; have z : y.G lv a = some o := z; rw [h1] at z; cases z
      · exact .inr (by show upd y.B A (.lst []) a = none; rw [upd_ne e]; exact z')
  · cases sl with
    | un => trivial
    | sh f d => exact s'.slots i _ hi
    | ow f d =>
      obtain ⟨p, e1, o1, o2, o3, o4, o5⟩ := s'.slots i _ hi
      have e : p ≠ A := fun e => h5 i ⟨⟨f, d, hi⟩, getD_some.mp (by rw [← e]; exact e1)⟩
      exact ⟨p, e1, o1, by show upd y.Z A (.lst acc) p = none; rw [upd_ne e]; exact o2, by show upd y.B A (.lst []) p = none; rw [upd_ne e]; exact o3, o4, o5⟩
  · obtain ⟨a1, a2, a3, a4⟩ := s'.str.off q hq
    refine ⟨a1, a2, ?_, ?_⟩
    · show upd y.Z A (.lst acc) q.1 = none
      rw [upd_ne (Ne.symm (h4 q hq).1)]; exact a3
    · show upd y.Z A (.lst acc) q.2 = none
      rw [upd_ne (Ne.symm (h4 q hq).2)]; exact a4
/-- what is known of the list beside -/
theorem SR.at_beside (g0 : y.G 0 A = none) (s : SR (y.beside A acc) lv c σ H) : H A = some (.lst acc) ∧ y.G lv A = none ∧ NotStr y.sx A ∧ ∀ i, ¬ OwnAt c σ i A := by
  have hz : (y.beside A acc).Z A = some (.lst acc) := upd_same
  refine ⟨s.prot _ _ hz, ?_, fun q hq => ?_, fun i ⟨⟨f, d, hi⟩, hs⟩ => ?_⟩
  · cases e : y.G lv A with
    | none => rfl
    | some o =>
      rcases s.fresh A o e with z | z
      · have z : y.G 0 A = some o := z; rw [g0] at z; cases z
      · exact absurd rfl (upd_none z).2
  · obtain ⟨_, _, a3, a4⟩ := s.str.off q hq
    exact ⟨fun z => (upd_none a3).2 z.symm, fun z => (upd_none a4).2 z.symm⟩
  · obtain ⟨p, e1, _, o2, _⟩ := s.slots i _ hi
    rw [getD_some.mpr hs] at e1
    cases e1
    exact (upd_none o2).2 rfl
/-- it grows -/
theorem SR.regrow {acc' : List V} (g0 : y.G 0 A = none) (s : SR (y.beside A acc) lv c σ H) : SR (y.beside A acc') lv c σ (upd H A (.lst acc')) := by
  obtain ⟨b1, b2, b3, b4⟩ := s.at_beside g0
  refine ⟨s.pos, fun a z => ?_, s.g, fun a o z => ?_, fun a o z => ?_, fun a z => ?_, s.fresh, fun i sl hi => ?_, s.inj, ⟨s.str.len, fun g p t h1 h2 => ?_, fun q hq => ?_, s.str.nd⟩, s.len⟩
  · have z : upd y.Z A (.lst acc') a ≠ none := z
    by_cases e : a = A
    · subst e; exact s.zb a (by show upd y.Z a (.lst acc) a ≠ none; rw [upd_same]; exact fun z => by cases z)
    · rw [upd_ne e] at z; exact s.zb a (by show upd y.Z A (.lst acc) a ≠ none; rw [upd_ne e]; exact z)
  · have z : y.G lv a = some o := z
    have e : a ≠ A := fun e => by rw [e, b2] at z; cases z
    rw [upd_ne e]; exact s.top a o z
  · have z : upd y.Z A (.lst acc') a = some o := z
    by_cases e : a = A
    · subst e; rw [upd_same] at z ⊢; exact z
    · rw [upd_ne e] at z ⊢
      exact s.prot a o (by show upd y.Z A (.lst acc) a = _; rw [upd_ne e]; exact z)
  · by_cases e : a = A
    · subst e; rw [upd_same]; exact fun z => by cases z
    · rw [upd_ne e]; exact s.old a z
  · cases sl with
    | un => trivial
    | sh f d => exact s.slots i _ hi
    | ow f d =>
      obtain ⟨p, e1, o1, o2, o3, o4, o5⟩ := s.slots i _ hi
      have e := (upd_none o2).2
      refine ⟨p, e1, o1, by show upd y.Z A (.lst acc') p = none; rw [upd_ne e]; exact (upd_none o2).1, o3, o4, ?_⟩
      cases d <;> first | exact o5.elim | (obtain ⟨vs, h1, h2⟩ := o5; exact ⟨vs, by rw [upd_ne e]; exact h1, h2⟩)
  · have n := b3 p (List.mem_of_getElem? h1)
    rw [upd_ne (Ne.symm n.1), upd_ne (Ne.symm n.2)]
    exact s.str.at_ g p t h1 h2
  · obtain ⟨a1, a2, a3, a4⟩ := s.str.off q hq
    have n := b3 q hq
    refine ⟨a1, a2, ?_, ?_⟩
    · show upd y.Z A (.lst acc') q.1 = none
      rw [upd_ne (Ne.symm n.1)]; exact (upd_none a3).1
    · show upd y.Z A (.lst acc') q.2 = none
      rw [upd_ne (Ne.symm n.2)]; exact (upd_none a4).1
/-- it is no more beside -/
theorem SR.alone (z0 : y.Z A = none) (b0 : y.B A = none) (s : SR (y.beside A acc) lv c σ H) : SR y lv c σ H := by
  refine ⟨s.pos, fun a z => ?_, s.g, s.top, fun a o z => ?_, fun a z => ?_, fun a o z => ?_, fun i sl hi => ?_, s.inj, ⟨s.str.len, s.str.at_, fun q hq => ?_, s.str.nd⟩, s.len⟩
  · have e : a ≠ A := fun e => z (by rw [e]; exact z0)
    have q := s.zb a (by show upd y.Z A (.lst acc) a ≠ none; rw [upd_ne e]; exact z)
    have q : upd y.B A (.lst []) a ≠ none := q
    rw [upd_ne e] at q; exact q
  · have e : a ≠ A := fun e => by rw [e, z0] at z; cases z
    exact s.prot a o (by show upd y.Z A (.lst acc) a = _; rw [upd_ne e]; exact z)
  · have e : a ≠ A := fun e => z (by rw [e]; exact b0)
    exact s.old a (by show upd y.B A (.lst []) a ≠ none; rw [upd_ne e]; exact z)
  · rcases s.fresh a o z with z' | z'
    · exact .inl z'
    · exact .inr (upd_none z').1
  · cases sl with
    | un => trivial
    | sh f d => exact s.slots i _ hi
    | ow f d =>
      obtain ⟨p, e1, o1, o2, o3, o4, o5⟩ := s.slots i _ hi
      exact ⟨p, e1, o1, (upd_none o2).1, (upd_none o3).1, o4, o5⟩
  · obtain ⟨a1, a2, a3, a4⟩ := s.str.off q hq
    exact ⟨a1, a2, (upd_none a3).1, (upd_none a4).1⟩

/-! ### slots forgotten, and back -/
theorem SR.wipe {y : Dy} {c : C} {σ : L2.St} {H : Hp} (s : SR y lv c σ H) : ∀ vs : List Nat, SR y lv { c with r := wipeR c.r vs } (L2.wipe σ vs) H
  | [] => s
  | v :: vs => (SR.wipe s vs).forget none
theorem wipe_get {σ : L2.St} {j : Nat} : ∀ {vs : List Nat}, j ∉ vs → (L2.wipe σ vs)[j]? = σ[j]?
  | [], _ => rfl
  | v :: vs, h => by
    unfold L2.wipe
    rw [List.getElem?_set_ne (fun z => h (by rw [z]; exact List.mem_cons_self)), wipe_get fun z => h (List.mem_cons_of_mem _ z)]
theorem backR_len {r0 : List Slot} : ∀ {vs : List Nat} {r : List Slot}, (backR r0 r vs).length = r.length
  | [], _ => rfl
  | v :: vs, r => by
    simp only [backR]
    split <;> rw [List.length_set, backR_len]
theorem wipeR_len : ∀ {vs : List Nat} {r : List Slot}, (wipeR r vs).length = r.length
  | [], _ => rfl
  | v :: vs, r => by simp only [wipeR]; rw [List.length_set, wipeR_len]
theorem backR_get {r0 : List Slot} {j : Nat} {sl : Slot} : ∀ {vs : List Nat} {r : List Slot}, (backR r0 r vs)[j]? = some sl → (j ∉ vs ∧ r[j]? = some sl) ∨ sl = .un ∨ (∃ f d, sl = .sh f d ∧ r0[j]? = some (.sh f d))
  | [], r, h => .inl ⟨by simp, h⟩
  | v :: vs, r, h => by
    simp only [backR] at h
    have key : ∀ t : Slot, ((backR r0 r vs).set v t)[j]? = some sl → (t = .un ∨ ∃ f d, t = .sh f d ∧ r0[v]? = some (.sh f d)) → (j ∉ v :: vs ∧ r[j]? = some sl) ∨ sl = .un ∨ (∃ f d, sl = .sh f d ∧ r0[j]? = some (.sh f d)) := fun t h ht => by
      by_cases e : v = j
      · subst e
        have hl : v < (backR r0 r vs).length := by simpa using (List.getElem?_eq_some_iff.mp h).1
        rw [List.getElem?_set_self hl] at h
        cases h
        exact .inr ht
      · rw [List.getElem?_set_ne e] at h
        rcases backR_get h with ⟨h1, h2⟩ | h2
        · exact .inl ⟨fun z => by rcases List.mem_cons.mp z with z | z; exact e z.symm; exact h1 z, h2⟩
        · exact .inr h2
    split at h
    · rename_i f d e
      exact key _ h (.inr ⟨f, d, rfl, e⟩)
    · exact key _ h (.inl rfl)
theorem SR.back {y0 : Dy} {c0 : C} {H0 : Hp} {vs : List Nat} (s0 : SR y0 lv c0 σ H0) (es : Pre y0.sx y.sx) (eg : Gext y0.G lv y.G) (s : SR y lv c (L2.wipe σ vs) H) : SR y lv { c with r := backR c0.r c.r vs } σ H := by
  refine ⟨s.pos, s.zb, s.g, s.top, s.prot, s.old, s.fresh, fun i sl hi => ?_, fun i j p h1 h2 => ?_, s.str, ?_⟩
  · rcases backR_get hi with ⟨h1, h2⟩ | rfl | ⟨f, d, rfl, h2⟩
    · have q := s.slots i sl h2
      have e : (L2.wipe σ vs).getD i none = σ.getD i none := by rw [List.getD_eq_getElem?_getD, List.getD_eq_getElem?_getD, wipe_get h1]
      rw [e] at q
      exact q
    · trivial
    · obtain ⟨v, e1, e2⟩ := s0.slots i _ h2
      exact ⟨v, e1, Rp.mono es (regm_mono s0.g s.g eg) d v e2⟩
  · have out : ∀ {j : Nat}, OwnAt { c with r := backR c0.r c.r vs } σ j p → OwnAt c (L2.wipe σ vs) j p := fun {j} ⟨⟨f, d, h⟩, h'⟩ => by
      rcases backR_get h with ⟨h1, h2⟩ | z | ⟨f, d, z, _⟩
      · exact ⟨⟨f, d, h2⟩, by rw [wipe_get h1]; exact h'⟩
      · cases z
      · cases z
    exact s.inj i j p (out h1) (out h2)
  · show (backR c0.r c.r vs).length = _
    rw [backR_len, s.len, wipe_length]
end
end Sd

/-! Sd17: comprehensions. -/
namespace Sd
open PySem PySem.Spec PyProof.Rows L2
/-- no error is let out -/
abbrev W0 : WX := fun _ _ _ _ => False
theorem takes0 {X : Cx} {s : Shared} {H : Hp} {scope : Scope} {cenv : Env} {fp : List Addr} : Takes (X.blk s H scope cenv fp) W0 := fun u s' ⟨a, B, sI, pins, σ, H, cls, d, e, I, nb, up, sky, na, os, ag, w⟩ => w.elim
theorem Post.noX {α : Type} {o : Out α} {W : Exn → C → Prop} {K : α → C → Prop} (h : Post o.noX W K) : Post o (fun _ _ => False) K := by
  cases o with
  | ok a c => exact h
  | exc e c => exact h.elim
  | stuck => exact h.elim
theorem Post.any {α : Type} {o : Out α} {W : Exn → C → Prop} {K : α → C → Prop} (h : Post o (fun _ _ => False) K) : Post o W K := h.imp (fun _ _ z => z.elim) fun _ _ z => z
theorem Fl.join_assoc (a b c : Fl) : (a.join b).join c = a.join (b.join c) := by
  unfold Fl.join; rw [Nat.min_assoc, Nat.max_assoc]
section
variable {X : Cx} {ct : Ct} {cl : Caller} {sg : Sig} {W : WX} {lv : Nat}
/-- a clause's tests, their reading -/
def tCs (ct : Ct) (cl : Caller) (sg : Sig) (W : WX) (lv : Nat) (cs : List IE) : TT := fun σ H Q => ∃ y c, SR y lv c σ H ∧ Post (evCs cl sg lv cs c) (XW ct lv y σ W) fun k c' => ∀ y' H', Ext y lv y' → SR y' lv c' σ H' → Q k H'
theorem _root_.L2.PTs.conseq {X : Cx} {es : List Expr} {t t' : TT} (h : PTs X es t) (i : ∀ σ H Q, t' σ H Q → t σ H Q) : PTs X es t' := ⟨fun pins s σ H Q I hw => h.run pins s σ H Q I (i _ _ _ hw)⟩
theorem c_nil : PTs X [] (tCs ct cl sg W lv []) := pts_nil.conseq fun σ H Q ⟨y, c, s, h⟩ => by
  simp only [evCs] at h
  exact h y H Ext.refl s
theorem c_one {a : IE} {e : Expr} (ha : PT X e (tT ct cl sg W lv a)) : PTs X [e] (tCs ct cl sg W lv [a]) := (pts_one ha).conseq fun σ H Q ⟨y, c, s, h⟩ => by
  simp only [evCs] at h
  rw [Post.bind] at h
  refine ⟨y, c, s, h.imp (fun _ _ z => z) fun k c' q => ?_⟩
  cases k with
  | true => exact q
  | false => exact q
theorem drop_cons {α : Type} {xs : List α} {i : Nat} {d : α} (h : xs[i]? = some d) : xs.drop i = d :: xs.drop (i + 1) := by
  obtain ⟨hi, e⟩ := List.getElem?_eq_some_iff.mp h
  rw [List.drop_eq_getElem_cons hi, e]
theorem wipe_in {σ : L2.St} {j : Nat} : ∀ {vs : List Nat}, j ∈ vs → (L2.wipe σ vs)[j]? = if j < σ.length then some none else none
  | v :: vs, h => by
    unfold L2.wipe
    by_cases e : v = j
    · subst e
      by_cases hl : v < σ.length
      · rw [List.getElem?_set_self (by rw [wipe_length]; exact hl), if_pos hl]
      · rw [if_neg hl, List.getElem?_eq_none (by rw [List.length_set, wipe_length]; omega)]
    · rw [List.getElem?_set_ne e]
      exact wipe_in (by rcases List.mem_cons.mp h with z | z; exact absurd z.symm e; exact z)
theorem wipe_idem {σ : L2.St} {vs : List Nat} : L2.wipe (L2.wipe σ vs) vs = L2.wipe σ vs := by
  refine List.ext_getElem? fun j => ?_
  by_cases h : j ∈ vs
  · rw [wipe_in h, wipe_in h, wipe_length]
  · rw [wipe_get h]
theorem lc_read {ts : List Nat} {one : Bool} {ea : IE} {it : IT} {cs : List IE} {σ : L2.St} {H : Hp} {Q : VK} (hq : tE ct cl sg W lv (.lc ea ts one it cs) σ H Q) :
    tLc (tI ct cl sg W lv it) (fun v σ H Q => ∃ f, gT lv f ts one v σ H Q) (tCs ct cl sg W0 lv cs) (tE ct cl sg W0 lv ea) ts σ H Q := by
  obtain ⟨y, c, s, h⟩ := hq
  simp only [evE] at h
  rw [Post.bind] at h
  refine ⟨y, c, s, h.imp (fun _ _ z => z) fun fd c0 q0 y0 H1 J x0 s0 iok => ?_⟩
  obtain ⟨f, xs⟩ := fd
  dsimp only at q0 iok
  by_cases hz : xs.length ≤ SZ
  case neg => rw [if_neg hz] at q0; exact q0.elim
  rw [if_pos hz] at q0
  rw [Post.bind] at q0
  have q0 := q0.noX
  intro A hA
  obtain ⟨G, Y, w, hG, hY⟩ := iok
  obtain ⟨a1, a2, a3, a4, a5⟩ := s0.gnone hA
  have g0 : y0.G 0 A = none := (s0.g.mono 0 lv (by omega)).none a1
  generalize hone : (fun (p : Fl × D) (c : C) => (ofOpt (setTg p.1 ts one p.2 c.r) c).bind fun r c => (evCs cl sg lv cs { c with r := r }).bind fun k c => if k then ((evE cl sg lv ea c).z lv).bind fun fd c => .ok (some fd) c else (.ok none c : Out (Option (Fl × D)))) = one' at q0
  refine lc_it (g := fun v σ H Q => ∃ f, gT lv f ts one v σ H Q) (tt := tCs ct cl sg W0 lv cs) (te := tE ct cl sg W0 lv ea) (vs := ts) (σ := σ) (H1 := H1) (D := A) (Qd := fun H => Q (.ref A) H) w (Pv := fun i Hc => ∃ (y' : Dy) (c' : C) (acc : List V) (ads : List D) (J0 : Fl → Fl), i ≤ xs.length ∧ y'.Z = y0.Z ∧ y'.B = y0.B ∧ Pre y0.sx y'.sx ∧ Gext y0.G lv y'.G ∧ SR (y'.beside A acc) lv { c' with r := wipeR c'.r ts } (L2.wipe σ ts) Hc ∧
      acc.length ≤ i ∧ (∀ g, Rps y'.sx (regm y'.G lv (J0 g)) ads acc) ∧ (∀ (G : Nat → Hp) g, Gok G lv → Sub (regm G lv g) (regm G lv (J0 g))) ∧
      Post (lcGo ts one' f (xs.drop i) c') (fun _ _ => False) fun gd c2 => ∀ y' v H', Ext y lv y' → SR y' lv { c2 with r := backR c0.r (wipeR c2.r ts) ts } σ H' → RelR y' lv { c2 with r := backR c0.r (wipeR c2.r ts) ts } σ H' (.new (J0 gd.1) (.lst (ads ++ gd.2))) v → Q v H') ?_ ?_ ?_ ?_
  · exact ⟨y0, c0, [], [], id, Nat.zero_le _, rfl, rfl, Pre.refl _, Gext.refl, (s0.wipe ts).beside hA, Nat.le_refl _, fun _ => Rps.nil, fun _ _ _ => Sub.refl _, q0⟩
  · rintro i Hc hi ⟨y', c', acc, ads, J0, h1, h2, h3, h4, h5, h6, h7, h8, h8', h9⟩
    exact hG _ ((Gext.up h5).trans h6.top)
  · rintro i x Hc H' hi ⟨y', c', acc, ads, J0, h1, h2, h3, h4, h5, h6, h7, h8, h8', h9⟩ hy
    obtain ⟨d, hd, item⟩ := hY i Hc x H' hi ((Gext.up h5).trans h6.top) hy
    obtain ⟨y3, x3, s3, r3⟩ := ItOk.step (y := y0) (y2 := y'.beside A acc) s0.g h4 h5 h6 item
    rw [drop_cons hd] at h9
    simp only [lcGo] at h9
    rw [Post.bind] at h9
    have e9 : one' (f, d) { c' with r := wipeR c'.r ts } = (ofOpt (setTg f ts one d (wipeR c'.r ts)) { c' with r := wipeR c'.r ts }).bind fun r c => (evCs cl sg lv cs { c with r := r }).bind fun k c => if k then ((evE cl sg lv ea c).z lv).bind fun fd c => .ok (some fd) c else .ok none c := by rw [← hone]
    rw [e9, Post.bind, Post.ofOpt] at h9
    obtain ⟨r', hr', h9⟩ := h9
    have hidem : L2.wipe (L2.wipe σ ts) ts = L2.wipe σ ts := wipe_idem
    refine ⟨f, y3, _, d, r', s3, r3, hr', fun σ' s4 hw => ?_⟩
    have hw1 : L2.wipe σ' ts = L2.wipe σ ts := (hw ts fun _ h => h).trans hidem
    refine ⟨hw1, ?_⟩
    rw [Post.bind] at h9
    refine ⟨y3, _, s4, h9.any.imp (fun _ _ z => z) fun k c5 q5 y5 H5 x5 s5 => ?_⟩
    -- the state at the turn's end
    have fin : ∀ (y6 : Dy) (c6 : C) (acc' : List V) (ads' : List D) (J1 : Fl → Fl) (H6 H7 : Hp), Ext y3 lv y6 → SR y6 lv c6 σ' H6 → acc'.length ≤ i + 1 → (acc' = acc ∧ H7 = H6 ∨ H7 = upd H6 A (.lst acc')) → (∀ g, Rps y6.sx (regm y6.G lv (J1 g)) ads' acc') → (∀ (G : Nat → Hp) g, Gok G lv → Sub (regm G lv g) (regm G lv (J1 g))) →
        Post (lcGo ts one' f (xs.drop (i + 1)) c6) (fun _ _ => False) (fun gd c2 => ∀ y' v H', Ext y lv y' → SR y' lv { c2 with r := backR c0.r (wipeR c2.r ts) ts } σ H' → RelR y' lv { c2 with r := backR c0.r (wipeR c2.r ts) ts } σ H' (.new (J1 gd.1) (.lst (ads' ++ gd.2))) v → Q v H') →
        ∃ (y' : Dy) (c' : C) (acc : List V) (ads : List D) (J0 : Fl → Fl), i + 1 ≤ xs.length ∧ y'.Z = y0.Z ∧ y'.B = y0.B ∧ Pre y0.sx y'.sx ∧ Gext y0.G lv y'.G ∧ SR (y'.beside A acc) lv { c' with r := wipeR c'.r ts } (L2.wipe σ ts) H7 ∧
          acc.length ≤ i + 1 ∧ (∀ g, Rps y'.sx (regm y'.G lv (J0 g)) ads acc) ∧ (∀ (G : Nat → Hp) g, Gok G lv → Sub (regm G lv g) (regm G lv (J0 g))) ∧
          Post (lcGo ts one' f (xs.drop (i + 1)) c') (fun _ _ => False) fun gd c2 => ∀ y' v H', Ext y lv y' → SR y' lv { c2 with r := backR c0.r (wipeR c2.r ts) ts } σ H' → RelR y' lv { c2 with r := backR c0.r (wipeR c2.r ts) ts } σ H' (.new (J0 gd.1) (.lst (ads ++ gd.2))) v → Q v H' :=
      fun y6 c6 acc' ads' J1 H6 H7 x6 s6 hl hH rp up ps => by
        have x36 := x3.trans x6
        have g06 : y6.G 0 A = none := by
          have := x36.g.low 0 (by have := s0.pos; omega)
          rw [this]
          have z := h5.low 0 (by have := s0.pos; omega)
          show y'.G 0 A = none
          rw [z]; exact g0
        have e6 : y6 = ({ y6 with Z := y0.Z, B := y0.B } : Dy).beside A acc := by
          have ez : y6.Z = upd y0.Z A (.lst acc) := by rw [x36.z, ← h2]
          have eb : y6.B = upd y0.B A (.lst []) := by rw [x36.b, ← h3]
          show y6 = ({ y6 with Z := upd y0.Z A (.lst acc), B := upd y0.B A (.lst []) } : Dy)
          rw [← ez, ← eb]
        have w6 := s6.wipe ts
        rw [hw1, e6] at w6
        refine ⟨{ y6 with Z := y0.Z, B := y0.B }, c6, acc', ads', J1, hi, rfl, rfl, h4.trans x36.s, h5.trans x36.g, ?_, hl, rp, up, ps⟩
        rcases hH with ⟨rfl, rfl⟩ | rfl
        · exact w6
        · exact w6.regrow g06
    cases k with
    | false =>
      simp only [Bool.false_eq_true, if_false] at q5 ⊢
      have q5 : Post ((lcGo ts one' f (xs.drop (i + 1)) c5).bind fun (g, ds) c => .ok (g, ds) c) (fun _ _ => False) _ := q5
      rw [Post.bind] at q5
      exact fin y5 c5 acc ads J0 H5 H5 x5 s5 (Nat.le_succ_of_le h7) (.inl ⟨rfl, rfl⟩) (fun g => Rps.mono (x3.trans x5).s (regm_mono h6.g s5.g (x3.trans x5).g) _ _ (h8 g)) h8' q5
    | true =>
      simp only [if_true] at q5 ⊢
      rw [Post.bind] at q5
      refine toZ s5 (q5.any.imp (fun _ _ z => z) fun fd c7 q7 y7 v H7 x7 s7 r7 => ?_)
      obtain ⟨fe, de⟩ := fd
      have q7 : Post ((lcGo ts one' f (xs.drop (i + 1)) c7).bind fun (g, ds) c => .ok ((nrm de fe).join g, de :: ds) c) (fun _ _ => False) _ := q7
      rw [Post.bind] at q7
      have x57 := x5.trans x7
      have hH : H7 A = some (.lst acc) := s7.prot A _ (by rw [(x3.trans x57).z]; exact upd_same)
      have hSZ := SZ_eq
      refine ⟨acc, hH, by omega, fin y7 c7 (acc ++ [v]) (ads ++ [de]) (fun g => J0 ((nrm de fe).join g)) H7 _ x57 s7 (by simp; omega) (.inr rfl) (fun g => ?_) (fun G g k => (regm_join_r k).trans (h8' G _ k)) ?_⟩
      · refine (Rps.mono (x3.trans x57).s (regm_mono h6.g s7.g (x3.trans x57).g) _ _ (h8 _)).append (.cons ?_ .nil)
        exact Rp.mono (Pre.refl _) ((regm_join_l s7.g).trans (h8' _ _ s7.g)) _ _ r7.nrm
      · refine q7.imp (fun _ _ z => z) fun gd c8 z => ?_
        have z : ∀ y' v H', Ext y lv y' → SR y' lv { c8 with r := backR c0.r (wipeR c8.r ts) ts } σ H' → RelR y' lv { c8 with r := backR c0.r (wipeR c8.r ts) ts } σ H' (.new (J0 ((nrm de fe).join gd.1)) (.lst (ads ++ de :: gd.2))) v → Q v H' := z
        rw [List.append_assoc]
        exact z
  · rintro Hc ⟨y', c', acc, ads, J0, h1, h2, h3, h4, h5, h6, h7, h8, h8', h9⟩
    rw [List.drop_length] at h9
    have h9 : ∀ y' v H', Ext y lv y' → SR y' lv { c' with r := backR c0.r (wipeR c'.r ts) ts } σ H' → RelR y' lv { c' with r := backR c0.r (wipeR c'.r ts) ts } σ H' (.new (J0 Fl.top) (.lst (ads ++ []))) v → Q v H' := h9
    rw [List.append_nil] at h9
    have g06 : y'.G 0 A = none := by
      rw [h5.low 0 (by have := s0.pos; omega)]; exact g0
    obtain ⟨b1, b2, b3, b4⟩ := h6.at_beside g06
    have s1 := h6.alone (by rw [h2]; exact a2) (by rw [h3]; exact a3)
    have s2 := SR.back (vs := ts) (c := { c' with r := wipeR c'.r ts }) s0 h4 h5 s1
    refine h9 y' _ Hc (x0.trans ⟨h2, h3, h5, h4⟩) s2 ⟨A, rfl, ⟨b2, by rw [h2]; exact a2, by rw [h3]; exact a3, b3, acc, b1, h8 _⟩, fun i ⟨⟨f, d, hi⟩, hs⟩ => ?_⟩
    rcases backR_get hi with ⟨z1, z2⟩ | z | ⟨_, _, z, _⟩
    · exact b4 i ⟨⟨f, d, z2⟩, by rw [wipe_get z1]; exact hs⟩
    · cases z
    · cases z
/-- what the parts of a comprehension are -/
structure LcOk (X : Cx) (ct : Ct) (cl : Caller) (sg : Sig) (W : WX) (lv : Nat) (e tg iter : Expr) (ifs : List Expr) (bs : Scope) (ts : List Nat) (one : Bool) (ea : IE) (it : IT) (cs : List IE) (own : List (Str × Nat)) : Prop where
  how : own.map (·.2) = ts
  calm : X.calm = true
  nd : X.N.Nodup
  hi : PI X tg iter (tI ct cl sg W lv it)
  ok : BlkOk X.N X.env.scope bs own
  hg : ∀ (f : Fl) (s : Shared) (H : Hp) (C : Addr) (cl : List (Str × Addr)) (fp : List Addr), PG (X.blk s H bs (compEnvC bs cl C X.env) fp) tg (gT lv f ts one)
  ht : ∀ (s : Shared) (H : Hp) (C : Addr) (cl' : List (Str × Addr)) (fp : List Addr), PTs (X.blk s H bs (compEnvC bs cl' C X.env) fp) ifs (tCs ct cl sg W0 lv cs)
  he : ∀ (s : Shared) (H : Hp) (C : Addr) (cl' : List (Str × Addr)) (fp : List Addr), PE (X.blk s H bs (compEnvC bs cl' C X.env) fp) e (tE ct cl sg W0 lv ea)
  hs : ∀ x, foldedSetIterable iter X.env x = pure x
section
variable {e tg iter : Expr} {ifs : List Expr} {bs : Scope} {ts : List Nat} {one : Bool} {pos : Pos} {ea : IE} {it : IT} {cs : List IE} {own : List (Str × Nat)}
theorem LcOk.hg' (L : LcOk X ct cl sg W lv e tg iter ifs bs ts one ea it cs own) (s : Shared) (H : Hp) (C : Addr) (cl : List (Str × Addr)) (fp : List Addr) : PG (X.blk s H bs (compEnvC bs cl C X.env) fp) tg (fun v σ H Q => ∃ f, gT lv f ts one v σ H Q) :=
  ⟨fun pins s1 σ H1 v u Q I r ⟨f, q⟩ => (L.hg f s H C cl fp).run pins s1 σ H1 v u Q I r q⟩
theorem e_lc (L : LcOk X ct cl sg W lv e tg iter ifs bs ts one ea it cs own) : PE X (.ListComp e [⟨tg, iter, ifs, 0⟩] bs pos) (tE ct cl sg W lv (.lc ea ts one it cs)) :=
  (pe_lc L.calm L.nd L.hi L.ok L.hg' L.ht L.he L.hs).conseq fun σ H Q h => by
    rw [L.how]
    exact lc_read h
theorem s_setLc {i : Nat} {x : Str} {px spos : Pos} (L : LcOk X ct cl sg W lv e tg iter ifs bs ts one ea it cs own) (hy : X.N[i]? = some x) (hl : X.env.scope.names.lookup x = some .local) (hsw : swapsWith (.ListComp e [⟨tg, iter, ifs, 0⟩] bs pos) (some (.Name x px)) spos.line X.env = pure true) :
    PS X (.Assign [.Name x px] (.ListComp e [⟨tg, iter, ifs, 0⟩] bs pos) spos) (tAsg (tE ct cl sg W lv (.lc ea ts one it cs)) (gName i)) :=
  (ps_setLc L.calm L.nd hy hl hsw L.hi L.ok L.hg' L.ht L.he L.hs).conseq fun D σ H h => by
    have h : tE ct cl sg W lv (.lc ea ts one it cs) σ H fun x H1 => gName i x σ H1 D.nx := h
    show tLc _ _ _ _ _ σ H fun x H1 => gName i x σ H1 D.nx
    rw [L.how]
    exact lc_read h
end
end
end Sd

/-! Sd18: every expression that is served. -/
namespace Sd
open PySem PySem.Spec PyProof.Rows L2
def bnames : List Str := ["abs", "len", "list", "tuple", "sum", "max", "min", "all", "any", "sorted", "int", "repr", "dict", "bool", "str", "isinstance", "range", "zip", "enumerate"]
/-- what is known of a def's (a block's) context -/
structure EnvOk (X : Cx) (us : List Str) (a : Ann) (ct : Ct) (cl : Caller) (sg : Sig) (k : Nat) : Prop where
  n : X.N = a.N
  nd : a.N.Nodup
  calm : X.calm = true
  room : RoomG k X.A
  blt : ∀ x ∈ bnames, X.mg x = none
  cals : ∀ x ∈ us, Cal X ct cl sg k x
  nodbg : ("__debug__" : Str) ∉ us
section
variable {us : List Str} {a : Ann} {ct : Ct} {cl : Caller} {sg : Sig} {k : Nat} {X : Cx} {W : WX} {lv : Nat} {sc : Scope}
theorem EnvOk.blk (E : EnvOk X us a ct cl sg k) {s : Shared} {H : Hp} {scope : Scope} {cenv : Env} {fp : List Addr} : EnvOk (X.blk s H scope cenv fp) us a ct cl sg k :=
  ⟨E.n, E.nd, E.calm, E.room, E.blt, fun x hx => ⟨(E.cals x hx).ex⟩, E.nodbg⟩
theorem gl_of (hs : X.env.scope = sc) {x : Str} (h : isGlb sc x = true) : Gl X x := by
  unfold isGlb at h
  show X.env.scope.names.lookup x = _
  rw [hs]
  split at h
  · assumption
  · cases h
theorem vis_of (hs : X.env.scope = sc) {x : Str} (h : isLoc sc x = true) : Vis X.env.scope x ∧ (x == ("__debug__" : Str)) = false ∧ (x == ("__classdict__" : Str)) = false := by
  unfold isLoc at h
  simp only [Bool.and_eq_true, Bool.not_eq_true', decide_eq_false_iff_not] at h
  obtain ⟨⟨h1, h2⟩, h3⟩ := h
  refine ⟨?_, by rw [beq_eq_false_iff_ne]; exact h1, by rw [beq_eq_false_iff_ne]; exact h2⟩
  rw [hs]
  unfold Vis
  split at h3 <;> first | (exact .inl (by assumption)) | (exact .inr (.inl (by assumption))) | (exact .inr (.inr (by assumption))) | cases h3
theorem isSto_loc {x : Str} (h : isSto sc x = true) : L2.Loc sc x := by
  unfold isSto at h
  unfold L2.Loc
  split at h <;> first | exact .inl (by assumption) | exact .inr (by assumption) | cases h
theorem isSto_vis {x : Str} (h : isSto sc x = true) : L2.Vis sc x := by
  rcases isSto_loc h with h | h
  · exact .inl h
  · exact .inr (.inl h)
theorem tgEnv_blk (E : EnvOk X us a ct cl sg k) (hs : X.env.scope = sc) {s : Shared} {H : Hp} {bs : Scope} {C : Addr} {cl' : List (Str × Addr)} {fp : List Addr} : TgEnv (X.blk s H bs (compEnvC bs cl' C X.env) fp) bs a.N := by
  refine ⟨E.n, E.nd, fun x hx => ?_⟩
  have h1 := isSto_loc hx
  have kp : ∀ kd : NameKind, kd ≠ .free → bs.names.lookup x = some kd → (relS bs X.env.scope).names.lookup x = some kd := fun kd hk h => lookup_relS_keep hk h
  rcases h1 with h1 | h1
  · exact ⟨.inl (kp _ (by decide) h1), .inr (kp _ (by decide) h1)⟩
  · exact ⟨.inr (kp _ (by decide) h1), .inl (by show (bs.names.lookup x == some .cell) = true; rw [h1]; rfl)⟩
theorem op2Of_eq {op : Operator} {o : Op2} (h : op2Of op = some o) : op = opE o := by
  cases op <;> simp [op2Of] at h <;> subst h <;> rfl
theorem cmOf_eq {op : CmpOp} {o : Cm} (h : cmOf op = some o) : op = cmE o := by
  cases op <;> simp [cmOf] at h <;> subst h <;> rfl
theorem ite_some {p : Prop} [Decidable p] {α : Type} {a b : α} {o : Option α} (h : (if p then some a else o) = some b) : (p ∧ a = b) ∨ o = some b := by
  by_cases hp : p
  · rw [if_pos hp] at h; cases h; exact .inl ⟨hp, rfl⟩
  · rw [if_neg hp] at h; exact .inr h
theorem btOf_eq {x : Str} {n : Nat} {b : Bt} (h : btOf x n = some b) : x = btN b := by
  unfold btOf at h
  by_cases h1 : n = 1
  · rw [if_pos h1] at h
    iterate 13 (rcases ite_some h with ⟨e, rfl⟩ | h; · exact e)
    cases h
  · rw [if_neg h1] at h
    by_cases h2 : n = 2
    · rw [if_pos h2] at h
      iterate 2 (rcases ite_some h with ⟨e, rfl⟩ | h; · exact e)
      cases h
    · rw [if_neg h2] at h; cases h
theorem btN_mem : ∀ b : Bt, btN b ∈ bnames := by intro b; cases b <;> decide
theorem tyS_mem : ∀ t : Ty, PySem.Str.ofString (tyS t) ∈ bnames := by intro t; cases t <;> decide
/-- what is not served -/
theorem e_never {e : Expr} : PE X e (tE ct cl sg W lv .never) := pe_never.conseq fun σ H Q ⟨y, c, s, h⟩ => by
  simp only [evE] at h
  exact h
theorem t_never {e : Expr} : PT X e (tT ct cl sg W lv .never) := ⟨fun pins s σ H Q I ⟨y, c, sr, h⟩ => by
  simp only [evE] at h
  exact h.elim⟩
theorem w_never {e : Expr} : PW X e (tT ct cl sg W lv .never) := ⟨fun wh pins s σ H Q I ⟨y, c, sr, h⟩ => by
  simp only [evE] at h
  exact h.elim⟩
theorem i_never {tg e : Expr} : PI X tg e (tI ct cl sg W lv (.e .never)) := ⟨fun pins s σ H R I ⟨y, c, sr, h⟩ => by
  simp only [evIt, evE] at h
  exact h.elim⟩
theorem w_one {op : BoolOp} {e : Expr} {pos : Pos} {t : TT} (h : PT X e t) : PW X (.BoolOp op [e] pos) t := by
  cases op
  · exact pw_and1 h
  · exact pw_or1 h
/-- an expression, as a value and as a test -/
structure Ser (X : Cx) (ct : Ct) (cl : Caller) (sg : Sig) (W : WX) (lv : Nat) (e : Expr) (i : IE) : Prop where
  pe : PE X e (tE ct cl sg W lv i)
  pt : PT X e (tT ct cl sg W lv i)
  pw : ∀ op es pos, e = .BoolOp op es pos → PW X e (tT ct cl sg W lv i)
theorem Ser.never {e : Expr} : Ser X ct cl sg W lv e .never := ⟨e_never, t_never, fun _ _ _ _ => w_never⟩
theorem Ser.val {e : Expr} {i : IE} (h : PE X e (tE ct cl sg W lv i)) (he : ∀ whole, isTrue e X.env whole = (do let v ← whole; standAt e.pos; holding [v] (truthy v))) (hb : ∀ op es pos, e ≠ .BoolOp op es pos) : Ser X ct cl sg W lv e i :=
  ⟨h, t_val h he, fun op es pos z => absurd z (hb op es pos)⟩
theorem a_mapO {f : Expr → IE} : ∀ {es : List Expr}, (∀ e, PE X e (tE ct cl sg W lv (f e))) → es.any isStar = false → PA X es (tAo ct cl sg W lv (es.map f))
  | [], _, _ => a_nilO
  | e :: es, h, hs => by
    have h1 : isStar e = false ∧ es.any isStar = false := by simpa using hs
    exact a_consO (h e) (a_mapO h h1.2) h1.1
theorem a_mapF {f : Expr → IE} : ∀ {es : List Expr}, (∀ e, PE X e (tE ct cl sg W lv (f e))) → es.any isStar = false → PA X es (tAf ct cl sg W lv (es.map f))
  | [], _, _ => a_nilF
  | e :: es, h, hs => by
    have h1 : isStar e = false ∧ es.any isStar = false := by simpa using hs
    exact a_consF (h e) (a_mapF h h1.2) h1.1
theorem k_map {f : Expr → IE} (h : ∀ e, PE X e (tE ct cl sg W lv (f e))) : ∀ {ks : List Keyword}, PK X ks (tAo ct cl sg W lv (ks.map fun k => f k.value))
  | [] => k_nil
  | ⟨nm, v, p⟩ :: ks => k_cons (h v) (k_map h)
theorem a_neverS {as : List IE} {es : List Expr} : PA X es (tAs ct cl sg W lv (.never :: as)) := ⟨fun pos pins s σ H Q I ⟨y, c, sr, h⟩ => by
  simp only [evS, evE] at h
  exact h.elim⟩
theorem cE_star : ∀ n sc e b, cE us a n sc e ≠ .star b
  | 0, sc, e, b => by simp [cE]
  | n + 1, sc, e, b => by
    intro h
    unfold cE at h
    repeat' split at h
    all_goals first | exact IE.noConfusion h | exact cE_star n _ _ _ h
theorem a_mapS {n : Nat} (h : ∀ m e, m < n → PE X e (tE ct cl sg W lv (cE us a m sc e))) : ∀ {es : List Expr}, PA X es (tAs ct cl sg W lv (es.map (cX us a n sc)))
  | [] => a_nilS
  | e :: es => by
    cases n with
    | zero =>
      show PA X (e :: es) (tAs ct cl sg W lv (cX us a 0 sc e :: es.map (cX us a 0 sc)))
      rw [show cX us a 0 sc e = .never by simp [cX]]
      exact a_neverS
    | succ n =>
      have ih := a_mapS h (es := es)
      show PA X (e :: es) (tAs ct cl sg W lv (cX us a (n + 1) sc e :: es.map (cX us a (n + 1) sc)))
      by_cases hs : isStar e = true
      · cases e <;> first | (simp [isStar] at hs; done) | skip
        rename_i x p
        simp only [cX]
        exact a_starS (h n x (Nat.lt_succ_self _)) ih
      · have hs : isStar e = false := by simpa using hs
        have ec : cX us a (n + 1) sc e = cE us a n sc e := by
          cases e <;> first | (simp [isStar] at hs; done) | simp only [cX]
        rw [ec]
        exact a_consS (cE_star n sc e) (h n e (Nat.lt_succ_self _)) ih hs
end
end Sd

/-! Sd19: every expression that is served, by induction. -/
namespace Sd
open PySem PySem.Spec PyProof.Rows L2
theorem tg_tup {sc : Scope} {N : List Str} {tg : Expr} {ts : List Nat} {one : Bool} (h : tgOf sc N tg = some (ts, one)) : (!one) = true → ∃ es j q, tg = .Tuple es j q := by
  intro ho
  cases tg <;> first | (simp [tgOf] at h; done) | skip
  · simp only [tgOf] at h
    split at h
    · simp only [Option.map_eq_some_iff, Prod.mk.injEq] at h
      obtain ⟨i, _, _, rfl⟩ := h
      simp at ho
    · cases h
  · exact ⟨_, _, _, rfl⟩
section
variable {us : List Str} {a : Ann} {ct : Ct} {cl : Caller} {sg : Sig} {k : Nat}
def Good (us : List Str) (a : Ann) (ct : Ct) (cl : Caller) (sg : Sig) (k n : Nat) : Prop :=
  ∀ (X : Cx) (W : WX) (lv : Nat) (sc : Scope) (e : Expr), EnvOk X us a ct cl sg k → X.env.scope = sc → Takes X W → Ser X ct cl sg W lv e (cE us a n sc e)
section
variable {X : Cx} {W : WX} {lv : Nat} {sc : Scope} {n : Nat} (E : EnvOk X us a ct cl sg k) (hs : X.env.scope = sc) (tk : Takes X W) (ih : ∀ m, m < n + 1 → Good us a ct cl sg k m)
include E hs tk ih
theorem g_pe (e : Expr) : PE X e (tE ct cl sg W lv (cE us a n sc e)) := (ih n (Nat.lt_succ_self _) X W lv sc e E hs tk).pe
theorem g_pt (e : Expr) : PT X e (tT ct cl sg W lv (cE us a n sc e)) := (ih n (Nat.lt_succ_self _) X W lv sc e E hs tk).pt
theorem g_O (es : List Expr) (h : es.any isStar = false) : PA X es (tAo ct cl sg W lv (es.map (cE us a n sc))) := a_mapO (g_pe E hs tk ih) h
theorem g_F (es : List Expr) (h : es.any isStar = false) : PA X es (tAf ct cl sg W lv (es.map (cE us a n sc))) := a_mapF (g_pe E hs tk ih) h
theorem g_S (es : List Expr) : PA X es (tAs ct cl sg W lv (es.map (cX us a n sc))) := a_mapS fun m e hm => (ih m (by omega) X W lv sc e E hs tk).pe
theorem g_K (ks : List Keyword) : PK X ks (tAo ct cl sg W lv (ks.map fun k => cE us a n sc k.value)) := k_map (g_pe E hs tk ih)
theorem s_const (c : Const) (j : Nat) (p : Pos) : Ser X ct cl sg W lv (.Constant c j p) (cE us a (n + 1) sc (.Constant c j p)) := by
  simp only [cE]
  split
  · exact .val e_non (fun _ => rfl) (fun _ _ _ z => by cases z)
  · exact .val e_bl (fun _ => rfl) (fun _ _ _ z => by cases z)
  · exact .val e_int (fun _ => rfl) (fun _ _ _ z => by cases z)
  · exact .val e_str (fun _ => rfl) (fun _ _ _ z => by cases z)
  · exact .never
theorem s_name (x : Str) (p : Pos) : Ser X ct cl sg W lv (.Name x p) (cE us a (n + 1) sc (.Name x p)) := by
  simp only [cE]
  split
  · rename_i h
    split
    · rename_i i hi
      obtain ⟨v, d1, d2⟩ := vis_of hs h
      exact .val (e_var (by rw [E.n]; exact slotOf_get hi) v d1 d2) (fun _ => rfl) (fun _ _ _ z => by cases z)
    · exact .never
  · exact .never
theorem s_bin (l : Expr) (op : Operator) (r : Expr) (p : Pos) : Ser X ct cl sg W lv (.BinOp l op r p) (cE us a (n + 1) sc (.BinOp l op r p)) := by
  simp only [cE]
  split
  · rename_i o ho
    rw [op2Of_eq ho]
    exact .val (e_op2 (g_pe E hs tk ih l) (g_pe E hs tk ih r)) (fun _ => rfl) (fun _ _ _ z => by cases z)
  · exact .never
theorem s_un (op : UnaryOp) (x : Expr) (p : Pos) : Ser X ct cl sg W lv (.UnaryOp op x p) (cE us a (n + 1) sc (.UnaryOp op x p)) := by
  cases op <;> simp only [cE]
  case USub => exact .val (e_neg (g_pe E hs tk ih x)) (fun _ => rfl) (fun _ _ _ z => by cases z)
  case Not => exact ⟨e_not (g_pe E hs tk ih x), t_not (g_pt E hs tk ih x), fun _ _ _ z => by cases z⟩
  all_goals exact .never
theorem s_bool (op : BoolOp) (es : List Expr) (p : Pos) : Ser X ct cl sg W lv (.BoolOp op es p) (cE us a (n + 1) sc (.BoolOp op es p)) := by
  cases es with
  | nil => cases op <;> (simp only [cE]; exact .never)
  | cons x es =>
    cases es with
    | nil =>
      have e1 : cE us a (n + 1) sc (.BoolOp op [x] p) = cE us a n sc x := by cases op <;> simp only [cE]
      rw [e1]
      have w : PW X (.BoolOp op [x] p) (tT ct cl sg W lv (cE us a n sc x)) := w_one (g_pt E hs tk ih x)
      exact ⟨e_and1 (g_pe E hs tk ih x), w.pt, fun op' es' p' z => w⟩
    | cons y es =>
      have s2 := ih n (Nat.lt_succ_self _) X W lv sc (.BoolOp op (y :: es) p) E hs tk
      cases op with
      | And =>
        have e1 : cE us a (n + 1) sc (.BoolOp .And (x :: y :: es) p) = .and (cE us a n sc x) (cE us a n sc (.BoolOp .And (y :: es) p)) := by simp only [cE]
        rw [e1]
        have w := t_and (pos := p) (g_pt E hs tk ih x) (s2.pw _ _ _ rfl)
        exact ⟨e_and (g_pe E hs tk ih x) s2.pe, w.pt, fun op' es' p' z => w⟩
      | Or =>
        have e1 : cE us a (n + 1) sc (.BoolOp .Or (x :: y :: es) p) = .or (cE us a n sc x) (cE us a n sc (.BoolOp .Or (y :: es) p)) := by simp only [cE]
        rw [e1]
        have w := t_or (pos := p) (g_pt E hs tk ih x) (s2.pw _ _ _ rfl)
        exact ⟨e_or (g_pe E hs tk ih x) s2.pe, w.pt, fun op' es' p' z => w⟩
theorem s_cmp1 (l : Expr) (op : CmpOp) (r : Expr) (p : Pos) : Ser X ct cl sg W lv (.Compare l [op] [r] p) (cE us a (n + 1) sc (.Compare l [op] [r] p)) := by
  have gen : ∀ {o : Cm}, cmOf op = some o → behindInMarks op r = false → Ser X ct cl sg W lv (.Compare l [op] [r] p) (.cmp o (cE us a n sc l) (cE us a n sc r)) := fun {o} ho hb => by
    have e := cmOf_eq ho
    subst e
    exact ⟨e_cmp E.room.r (g_pe E hs tk ih l) (g_pe E hs tk ih r) hb, t_cmp E.room.r (g_pe E hs tk ih l) (g_pe E hs tk ih r) hb, fun _ _ _ z => by cases z⟩
  simp only [cE]
  split
  · exact ⟨e_isN (g_pe E hs tk ih l), t_isN (g_pe E hs tk ih l), fun _ _ _ z => by cases z⟩
  · exact ⟨e_notN (g_pe E hs tk ih l), t_notN (g_pe E hs tk ih l), fun _ _ _ z => by cases z⟩
  · split
    · rename_i o ho
      split
      · exact .never
      · rename_i hb
        exact gen ho (by simpa using hb)
    · exact .never
theorem s_cmp2 (l : Expr) (op op' : CmpOp) (m r : Expr) (p : Pos) : Ser X ct cl sg W lv (.Compare l [op, op'] [m, r] p) (cE us a (n + 1) sc (.Compare l [op, op'] [m, r] p)) := by
  simp only [cE]
  split
  · rename_i o o' h1 h2
    split
    · exact .never
    · rename_i hb
      have e1 := cmOf_eq h1
      have e2 := cmOf_eq h2
      subst e1 e2
      have hb : lastMarks [cmE o, cmE o'] [m, r] = false := by simpa using hb
      exact ⟨e_chn E.room.r (g_pe E hs tk ih l) (g_pe E hs tk ih m) (g_pe E hs tk ih r) hb, t_chn E.room.r (g_pe E hs tk ih l) (g_pe E hs tk ih m) (g_pe E hs tk ih r) hb, fun _ _ _ z => by cases z⟩
  · exact .never
theorem s_ite (t x y : Expr) (p : Pos) : Ser X ct cl sg W lv (.IfExp t x y p) (cE us a (n + 1) sc (.IfExp t x y p)) := by
  simp only [cE]
  exact ⟨e_ite (g_pt E hs tk ih t) (g_pe E hs tk ih x) (g_pe E hs tk ih y), t_ite (g_pt E hs tk ih t) (g_pt E hs tk ih x) (g_pt E hs tk ih y), fun _ _ _ z => by cases z⟩
theorem s_list (es : List Expr) (p : Pos) : Ser X ct cl sg W lv (.List es p) (cE us a (n + 1) sc (.List es p)) := by
  simp only [cE]
  exact .val (e_lst (g_S E hs tk ih es)) (fun _ => rfl) (fun _ _ _ z => by cases z)
theorem s_tuple (es : List Expr) (j : Nat) (p : Pos) : Ser X ct cl sg W lv (.Tuple es j p) (cE us a (n + 1) sc (.Tuple es j p)) := by
  simp only [cE]
  split
  · exact .never
  · rename_i h
    exact .val (e_tup (g_F E hs tk ih es (by simpa using h))) (fun _ => rfl) (fun _ _ _ z => by cases z)
theorem g_P (o : Option Expr) : PO X o (tP ct cl sg W lv (cO us a n sc o)) := by
  cases n with
  | zero => exact ⟨fun pins s σ H Q I ⟨y, c, sr, h⟩ => by simp only [cO, evP, evE] at h; exact h.elim⟩
  | succ m =>
    cases o with
    | none => simp only [cO]; exact p_none
    | some e => simp only [cO]; exact p_some (ih m (by omega) X W lv sc e E hs tk).pe
theorem s_sub (x s : Expr) (p : Pos) : Ser X ct cl sg W lv (.Subscript x s p) (cE us a (n + 1) sc (.Subscript x s p)) := by
  simp only [cE]
  split
  · exact .val (e_rev (g_pe E hs tk ih x)) (fun _ => rfl) (fun _ _ _ z => by cases z)
  · exact .val (e_slc (g_pe E hs tk ih x) (g_P E hs tk ih _) (g_P E hs tk ih _)) (fun _ => rfl) (fun _ _ _ z => by cases z)
  · exact .never
  · rename_i i h1 h2 h3
    refine .val (e_ix (g_pe E hs tk ih x) (g_pe E hs tk ih s) ?_) (fun _ => rfl) (fun _ _ _ z => by cases z)
    cases s <;> first | exact absurd rfl (h3 _ _ _ _) | exact fun _ _ => rfl
theorem tyOf_eq {x : Str} {t : Ty} (h : tyOf x = some t) : x = PySem.Str.ofString (tyS t) := by
  unfold tyOf at h
  iterate 6 (rcases ite_some h with ⟨e, rfl⟩ | h; · exact e)
  cases h
theorem s_isa (x t : Expr) (p pos : Pos) (hg : isGlb sc "isinstance" = true) (hx : isStar x = false) :
    Ser X ct cl sg W lv (.Call (.Name "isinstance" p) [x, t] [] pos) (match tysOf sc t with | some ts => .isa (cE us a n sc x) ts | none => .never) := by
  have mg : ∀ z, z ∈ bnames → X.mg z = none := E.blt
  split
  · rename_i ts ht
    refine .val ?_ (fun _ => rfl) (fun _ _ _ z => by cases z)
    have single : ∀ y q, tysOf sc (.Name y q) = some ts → t = .Name y q → PE X (.Call (.Name "isinstance" p) [x, t] [] pos) (tE ct cl sg W lv (.isa (cE us a n sc x) ts)) := fun y q h e => by
      subst e
      simp only [tysOf, Option.map_eq_some_iff] at h
      obtain ⟨u, hu, rfl⟩ := h
      exact e_isa1 (gl_of hs hg) (mg _ (by decide)) (fun z hz => gl_of hs hz) (fun u => mg _ (tyS_mem u)) (g_pe E hs tk ih x) hx hu
    cases t <;> first | (simp [tysOf, tyN] at ht; done) | skip
    · exact single _ _ ht rfl
    · rename_i es j q
      simp only [tysOf] at ht
      cases e1 : es.mapM (tyN sc) with
      | none => rw [e1] at ht; simp at ht
      | some us' =>
        rw [e1] at ht
        have ht : (if us'.length ≤ 9 then some us' else none) = some ts := ht
        split at ht
        · rename_i hl
          cases ht
          exact e_isaT (gl_of hs hg) (mg _ (by decide)) (fun z hz => gl_of hs hz) (fun u => mg _ (tyS_mem u)) (g_pe E hs tk ih x) hx e1 hl
        · cases ht
  · exact .never
theorem s_blt (f : Str) (as : List Expr) (p pos : Pos) (hg : isGlb sc f = true) (ha : as.any isStar = false) :
    Ser X ct cl sg W lv (.Call (.Name f p) as [] pos) (match btOf f as.length with | some b => .blt b (as.map (cE us a n sc)) | none => .never) := by
  split
  · rename_i b hb
    have e := btOf_eq hb
    subst e
    cases as with
    | nil => simp [btOf] at hb
    | cons e es =>
      exact .val (e_blt E.calm E.room (gl_of hs hg) (E.blt _ (btN_mem b)) (g_O E hs tk ih _ ha) ha) (fun _ => rfl) (fun _ _ _ z => by cases z)
  · exact .never
theorem s_lrng (bs : List Expr) (p p2 pos pos2 : Pos) (hg : isGlb sc "list" = true) (hg2 : isGlb sc "range" = true) (hb : bs.any isStar = false) (hl : bs.length = 1 ∨ bs.length = 2) :
    Ser X ct cl sg W lv (.Call (.Name "list" p) [.Call (.Name "range" p2) bs [] pos2] [] pos) (.lrng (bs.map (cE us a n sc))) := by
  refine .val ?_ (fun _ => rfl) (fun _ _ _ z => by cases z)
  match bs, hl, hb with
  | [b], _, hb =>
    exact e_lrng1 E.calm (gl_of hs hg) (E.blt _ (by decide)) (gl_of hs hg2) (E.blt _ (by decide)) (g_pe E hs tk ih b) (by simpa using hb)
  | [b, d], _, hb =>
    have hb : isStar b = false ∧ isStar d = false := by simpa using hb
    exact e_lrng2 E.calm (gl_of hs hg) (E.blt _ (by decide)) (gl_of hs hg2) (E.blt _ (by decide)) (g_pe E hs tk ih b) (g_pe E hs tk ih d) hb.1 hb.2
  | [], h, _ => simp at h
  | _ :: _ :: _ :: _, h, _ => simp at h
theorem s_call (f : Str) (p : Pos) (as : List Expr) (ks : List Keyword) (pos : Pos) : Ser X ct cl sg W lv (.Call (.Name f p) as ks pos) (cE us a (n + 1) sc (.Call (.Name f p) as ks pos)) := by
  simp only [cE]
  split
  · rename_i hg
    split
    · exact .never
    · rename_i ha
      have ha : as.any isStar = false := by simpa using ha
      split
      · rename_i hf
        split
        · rename_i kn hk
          refine .val (e_call E.room tk (E.cals f hf) (gl_of hs hg) ?_ (g_O E hs tk ih as ha) (by simp) ha (g_K E hs tk ih ks) hk) (fun _ => rfl) (fun _ _ _ z => by cases z)
          rw [beq_eq_false_iff_ne]
          exact fun e => E.nodbg (e ▸ hf)
        · exact .never
      · split
        · rename_i hk
          have hk : ks = [] := by simpa using hk
          subst hk
          split
          · rename_i hi
            subst hi
            split
            · rename_i x t ha
              have hx : isStar x = false ∧ isStar t = false := by simpa using ha
              exact s_isa E hs tk ih x t p pos hg hx.1
            · exact .never
          · split
            · rename_i g q bs q2 hfl ha
              have hfl : f = "list" := by simpa using hfl
              subst hfl
              split
              · rename_i hc
                simp only [Bool.and_eq_true, Bool.not_eq_true', decide_eq_true_eq, Bool.or_eq_true, beq_iff_eq] at hc
                obtain ⟨⟨⟨h1, h2⟩, h3⟩, h4⟩ := hc
                subst h2
                exact s_lrng E hs tk ih bs p q pos q2 hg h1 h3 h4
              · exact s_blt E hs tk ih "list" _ p pos hg ha
            · rename_i ha _
              exact s_blt E hs tk ih f _ p pos hg (by assumption)
        · exact .never
  · exact .never
theorem s_meth (x m : Str) (xp ap : Pos) (as : List Expr) (ks : List Keyword) (pos : Pos) : Ser X ct cl sg W lv (.Call (.Attribute (.Name x xp) m ap) as ks pos) (cE us a (n + 1) sc (.Call (.Attribute (.Name x xp) m ap) as ks pos)) := by
  simp only [cE]
  split
  · rename_i hc
    simp only [Bool.and_eq_true, Bool.not_eq_true', decide_eq_true_eq, List.isEmpty_iff] at hc
    obtain ⟨⟨⟨⟨⟨h1, h2⟩, h3⟩, h4⟩, h5⟩, h6⟩ := hc
    subst h4
    split
    · rename_i i hi
      obtain ⟨v, d1, d2⟩ := vis_of hs h2
      have hN : X.N[i]? = some x := by rw [E.n]; exact slotOf_get hi
      have one : ∀ mm : Mt, m = mtS mm → as.length = 1 → Ser X ct cl sg W lv (.Call (.Attribute (.Name x xp) m ap) as [] pos) (.mth mm i (as.map (cE us a n sc))) := fun mm hm hl => by
        subst hm
        match as, hl, h5 with
        | [e], _, h5 =>
          refine .val (e_mthA hN v d1 d2 ?_ h6 (by simpa using h5) (g_F E hs tk ih [e] h5)) (fun _ => rfl) (fun _ _ _ z => by cases z)
          cases mm
          · exact .inl rfl
          · exact .inr (.inl rfl)
          · exact .inr (.inr rfl)
      split
      · rename_i hm
        simp only [Bool.and_eq_true, decide_eq_true_eq, beq_iff_eq] at hm
        exact one .append hm.1 hm.2
      · split
        · rename_i hm
          simp only [Bool.and_eq_true, decide_eq_true_eq, beq_iff_eq] at hm
          exact one .extend hm.1 hm.2
        · split
          · rename_i hm
            simp only [Bool.and_eq_true, decide_eq_true_eq] at hm
            obtain ⟨hm, hl⟩ := hm
            match as, hl, h5, one with
            | [], _, _, _ =>
              subst hm
              exact .val (e_pop0 hN v d1 d2 h6) (fun _ => rfl) (fun _ _ _ z => by cases z)
            | [e], _, _, one => exact one .pop hm rfl
            | _ :: _ :: _, hl, _, _ => simp at hl
          · exact .never
    · exact .never
  · exact .never
theorem g_I (tg : Expr) (tup : Bool) (e : Expr) (ht : tup = true → ∃ es j q, tg = .Tuple es j q) : PI X tg e (tI ct cl sg W lv (cI us a n sc tup e)) := by
  cases n with
  | zero => simp only [cI]; exact i_never
  | succ m =>
    have ih' : ∀ j, j < m + 1 → Good us a ct cl sg k j := fun j hj => ih j (by omega)
    have dflt : PI X tg e (tI ct cl sg W lv (.e (cE us a m sc e))) := i_e (g_pe E hs tk ih' e)
    cases e <;> first | (simp only [cI]; exact dflt) | skip
    rename_i f as ks pos
    cases f <;> first | (simp only [cI]; exact dflt) | skip
    rename_i f p
    simp only [cI]
    split
    · rename_i hc
      simp only [Bool.and_eq_true, Bool.not_eq_true', decide_eq_false_iff_not, List.isEmpty_iff] at hc
      obtain ⟨⟨⟨hg, h2⟩, h3⟩, h4⟩ := hc
      subst h2
      split
      · rename_i hf
        subst hf
        split
        · exact i_never
        · rename_i hl
          match as, hl, h3 with
          | [x], _, h3 => exact i_rng1 (gl_of hs hg) (E.blt _ (by decide)) (g_F E hs tk ih' [x] h3) (by simpa using h3) rfl
          | [x, y], _, h3 =>
            have hh : isStar x = false ∧ isStar y = false := by simpa using h3
            exact i_rng2 (gl_of hs hg) (E.blt _ (by decide)) (g_F E hs tk ih' [x, y] h3) hh.1 hh.2 rfl
          | [x, y, z], _, h3 =>
            have hh : isStar x = false ∧ isStar y = false ∧ isStar z = false := by simpa using h3
            exact i_rng3 (gl_of hs hg) (E.blt _ (by decide)) (g_F E hs tk ih' [x, y, z] h3) hh.1 hh.2.1 hh.2.2 rfl
          | [], hl, _ => simp at hl
          | _ :: _ :: _ :: _ :: _, hl, _ => simp at hl
      · split
        · rename_i hf
          subst hf
          split
          · rename_i x y
            split
            · rename_i htup
              obtain ⟨es, j, q, rfl⟩ := ht htup
              have hh : isStar x = false ∧ isStar y = false := by simpa using h3
              exact i_zip (gl_of hs hg) (E.blt _ (by decide)) (g_pe E hs tk ih' x) (g_pe E hs tk ih' y) hh.1 hh.2
            · exact i_never
          · exact i_never
        · split
          · rename_i hf
            subst hf
            split
            · rename_i x
              split
              · rename_i htup
                obtain ⟨es, j, q, rfl⟩ := ht htup
                exact i_enm0 (gl_of hs hg) (E.blt _ (by decide)) (g_pe E hs tk ih' x) (by simpa using h3)
              · exact i_never
            · rename_i x y
              split
              · rename_i htup
                obtain ⟨es, j, q, rfl⟩ := ht htup
                have hh : isStar x = false ∧ isStar y = false := by simpa using h3
                exact i_enm (gl_of hs hg) (E.blt _ (by decide)) (g_pe E hs tk ih' x) (g_pe E hs tk ih' y) hh.1 hh.2
              · exact i_never
            · exact i_never
          · exact dflt
    · exact dflt
theorem lc_ok {e tg it : Expr} {ifs : List Expr} {bs : Scope} {ts : List Nat} {one : Bool} (ht : tgOf bs a.N tg = some (ts, one)) (hc : (blkC a.N sc bs (ownOf a.N ts) && decide (ifs.length ≤ 1) && !isSet it) = true) :
    LcOk X ct cl sg W lv e tg it ifs bs ts one (cE us a n (relS bs sc) e) (cI us a n sc (!one) it) (ifs.map (cE us a n (relS bs sc))) (ownOf a.N ts) := by
  simp only [Bool.and_eq_true, Bool.not_eq_true', decide_eq_true_eq] at hc
  obtain ⟨⟨h1, h2⟩, h3⟩ := hc
  have hN : X.N.Nodup := by rw [E.n]; exact E.nd
  have bk : BlkOk X.N X.env.scope bs (ownOf a.N ts) := by rw [E.n, hs]; exact blkOk_by h1
  have blk : ∀ (s : Shared) (H : Hp) (C : Addr) (cl' : List (Str × Addr)) (fp : List Addr) (e : Expr), Ser (X.blk s H bs (compEnvC bs cl' C X.env) fp) ct cl sg W0 lv e (cE us a n (relS bs sc) e) := fun s H C cl' fp e =>
    ih n (Nat.lt_succ_self _) _ W0 lv (relS bs sc) e E.blk (by rw [← hs]; rfl) takes0
  refine ⟨by unfold ownOf; rw [List.map_map]; exact List.map_id _, E.calm, hN, g_I E hs tk ih tg (!one) it (tg_tup ht), bk, fun f s H C cl' fp => g_tg (X := X.blk s H bs (compEnvC bs cl' C X.env) fp) E.calm (tgEnv_blk E hs) ht, fun s H C cl' fp => ?_, fun s H C cl' fp => (blk s H C cl' fp e).pe, fun x => ?_⟩
  · match ifs, h2 with
    | [], _ => exact c_nil
    | [c], _ => exact c_one (blk s H C cl' fp c).pt
    | _ :: _ :: _, h => simp at h
  · cases it <;> first | rfl | (simp [isSet] at h3)
theorem s_lc (e : Expr) (gs : List Comprehension) (bs : Scope) (p : Pos) : Ser X ct cl sg W lv (.ListComp e gs bs p) (cE us a (n + 1) sc (.ListComp e gs bs p)) := by
  match gs with
  | [⟨tg, it, ifs, ac⟩] =>
    by_cases hac : ac = 0
    case neg =>
      have e1 : cE us a (n + 1) sc (.ListComp e [⟨tg, it, ifs, ac⟩] bs p) = .never := by simp [cE, hac]
      rw [e1]
      exact .never
    subst hac
    simp only [cE]
    split
    · rename_i ts one ht
      split
      · rename_i hc
        exact .val (e_lc (lc_ok E hs tk ih ht hc)) (fun _ => rfl) (fun _ _ _ z => by cases z)
      · exact .never
    · exact .never
  | [] => simp only [cE]; exact .never
  | _ :: _ :: _ => simp only [cE]; exact .never
theorem s_all (e : Expr) : Ser X ct cl sg W lv e (cE us a (n + 1) sc e) := by
  cases e with
  | Constant c j p => exact s_const E hs tk ih c j p
  | Name x p => exact s_name E hs tk ih x p
  | BinOp l op r p => exact s_bin E hs tk ih l op r p
  | UnaryOp op x p => exact s_un E hs tk ih op x p
  | BoolOp op es p => exact s_bool E hs tk ih op es p
  | Compare l ops rs p =>
    match ops, rs with
    | [op], [r] => exact s_cmp1 E hs tk ih l op r p
    | [op, op'], [m, r] => exact s_cmp2 E hs tk ih l op op' m r p
    | [], _ => simp only [cE]; exact .never
    | [_], [] => simp only [cE]; exact .never
    | [_], _ :: _ :: _ => simp only [cE]; exact .never
    | [_, _], [] => simp only [cE]; exact .never
    | [_, _], [_] => simp only [cE]; exact .never
    | [_, _], _ :: _ :: _ :: _ => simp only [cE]; exact .never
    | _ :: _ :: _ :: _, _ => simp only [cE]; exact .never
  | IfExp t x y p => exact s_ite E hs tk ih t x y p
  | List es p => exact s_list E hs tk ih es p
  | Tuple es j p => exact s_tuple E hs tk ih es j p
  | Subscript x s p => exact s_sub E hs tk ih x s p
  | ListComp e gs bs p => exact s_lc E hs tk ih e gs bs p
  | Call f as ks p =>
    cases f with
    | Name f q => exact s_call E hs tk ih f q as ks p
    | Attribute o m ap =>
      cases o with
      | Name x xp => exact s_meth E hs tk ih x m xp ap as ks p
      | _ => simp only [cE]; exact .never
    | _ => simp only [cE]; exact .never
  | _ => simp only [cE]; exact .never
end
/-- every expression -/
theorem good : ∀ n, Good us a ct cl sg k n := by
  intro n
  induction n using Nat.strongRecOn with
  | _ n ih =>
    intro X W lv sc e E hs tk
    cases n with
    | zero => simp only [cE]; exact .never
    | succ n => exact s_all E hs tk ih e
end
end Sd

/-! Sd20: statements, one by one. -/
namespace Sd
open PySem PySem.Spec PyProof.Rows L2
/-- what has grown; within a region that may be spoilt (sp), the last one may be another -/
structure ExtS (sp : Bool) (y : Dy) (lv : Nat) (y' : Dy) : Prop where
  z : y'.Z = y.Z
  b : y'.B = y.B
  low : ∀ n, n < lv → y'.G n = y.G n
  s : Pre y.sx y'.sx
  up : sp = false → Sub (y.G lv) (y'.G lv)
theorem ExtS.of {sp : Bool} {y y' : Dy} {lv : Nat} (e : Ext y lv y') : ExtS sp y lv y' := ⟨e.z, e.b, e.g.low, e.s, fun _ => e.g.up⟩
theorem ExtS.ext {y y' : Dy} {lv : Nat} (e : ExtS false y lv y') : Ext y lv y' := ⟨e.z, e.b, ⟨e.low, e.up rfl⟩, e.s⟩
theorem ExtS.refl {sp : Bool} {y : Dy} {lv : Nat} : ExtS sp y lv y := .of .refl
theorem ExtS.trans {sp : Bool} {y y' y'' : Dy} {lv : Nat} (a : ExtS sp y lv y') (b : ExtS sp y' lv y'') : ExtS sp y lv y'' := ⟨b.z.trans a.z, b.b.trans a.b, fun n h => (b.low n h).trans (a.low n h), a.s.trans b.s, fun h => (a.up h).trans (b.up h)⟩
theorem ExtS.weak {sp : Bool} {y y' : Dy} {lv : Nat} (e : ExtS false y lv y') : ExtS sp y lv y' := .of e.ext
def PostF (o : Fw) (W : Exn → C → Prop) (N : C → Prop) (R : Fl → D → C → Prop) : Prop := match o with
  | .nx c => N c
  | .rt f d c => R f d c
  | .exc e c => W e c
  | .stuck => False
theorem PostF.imp {o : Fw} {W W' : Exn → C → Prop} {N N' : C → Prop} {R R' : Fl → D → C → Prop} (h : PostF o W N R) (hw : ∀ e c, W e c → W' e c) (hn : ∀ c, N c → N' c) (hr : ∀ f d c, R f d c → R' f d c) : PostF o W' N' R' := by
  cases o with
  | nx c => exact hn _ h
  | rt f d c => exact hr _ _ _ h
  | exc e c => exact hw _ _ h
  | stuck => exact h
theorem PostF.w {α : Type} {o : Out α} {k : α → C → Fw} {W : Exn → C → Prop} {N : C → Prop} {R : Fl → D → C → Prop} : PostF (o.w k) W N R = Post o W fun a c => PostF (k a c) W N R := by
  cases o <;> rfl
theorem PostF.then {o : Fw} {k : C → Fw} {W : Exn → C → Prop} {N : C → Prop} {R : Fl → D → C → Prop} : PostF (o.then k) W N R = PostF o W (fun c => PostF (k c) W N R) R := by
  cases o <;> rfl
section
variable (ct : Ct) (cl : Caller) (sg : Sig) (W : WX) (lv : Nat) (sp : Bool)
def XS (y : Dy) : Exn → C → Prop := fun e c' => ∀ y' σ' H' cv d, ExtS sp y lv y' → SR y' lv c' σ' H' → ExR ct y' lv H' e cv d → W cv d σ' H'
def NK (y : Dy) (N : L2.St → Hp → Prop) : C → Prop := fun c' => ∀ y' σ' H', ExtS sp y lv y' → SR y' lv c' σ' H' → N σ' H'
def RK (y : Dy) (R : VK) : Fl → D → C → Prop := fun f d c' => ∀ y' σ' v H', ExtS sp y lv y' → SR y' lv c' σ' H' → Rp y'.sx (regm y'.G lv f) d v → R v H'
def tS (i : IS) : TS := fun D σ H => ∃ y c, SR y lv c σ H ∧ PostF (exS cl sg lv sp i c) (XS ct W lv sp y) (NK lv sp y D.nx) (RK lv sp y D.rt)
def tL (is : List IS) : TS := fun D σ H => ∃ y c, SR y lv c σ H ∧ PostF (exL cl sg lv sp is c) (XS ct W lv sp y) (NK lv sp y D.nx) (RK lv sp y D.rt)
end
section
variable {X : Cx} {ct : Ct} {cl : Caller} {sg : Sig} {W : WX} {lv : Nat} {sp : Bool} {y y' : Dy} {c : C} {σ : L2.St} {H : Hp}
theorem XS.xw (e : Exn) (c : C) (h : XS ct W lv sp y e c) : XW ct lv y σ W e c := fun y' H' cv d x s r => h y' σ H' cv d (.of x) s r
theorem XS.ext (x : ExtS sp y lv y') (e : Exn) (c : C) (h : XS ct W lv sp y e c) : XS ct W lv sp y' e c := fun y2 σ' H' cv d x2 s r => h y2 σ' H' cv d (x.trans x2) s r
theorem NK.ext {N : L2.St → Hp → Prop} (x : ExtS sp y lv y') (c : C) (h : NK lv sp y N c) : NK lv sp y' N c := fun y2 σ' H' x2 s => h y2 σ' H' (x.trans x2) s
theorem RK.ext {R : VK} (x : ExtS sp y lv y') (f : Fl) (d : D) (c : C) (h : RK lv sp y R f d c) : RK lv sp y' R f d c := fun y2 σ' v H' x2 s r => h y2 σ' v H' (x.trans x2) s r
theorem PostF.ext {o : Fw} {N : L2.St → Hp → Prop} {R : VK} (x : ExtS sp y lv y') (h : PostF o (XS ct W lv sp y) (NK lv sp y N) (RK lv sp y R)) : PostF o (XS ct W lv sp y') (NK lv sp y' N) (RK lv sp y' R) :=
  h.imp (XS.ext x) (NK.ext x) (RK.ext x)
/-- the strict relation serves the weaker one -/
theorem XS.down (e : Exn) (c : C) (h : XS ct W lv sp y e c) : XS ct W lv false y e c := fun y2 σ' H' cv d x2 s r => h y2 σ' H' cv d x2.weak s r
theorem NK.down {N : L2.St → Hp → Prop} (c : C) (h : NK lv sp y N c) : NK lv false y N c := fun y2 σ' H' x2 s => h y2 σ' H' x2.weak s
theorem RK.down {R : VK} (f : Fl) (d : D) (c : C) (h : RK lv sp y R f d c) : RK lv false y R f d c := fun y2 σ' v H' x2 s r => h y2 σ' v H' x2.weak s r
/-- a step into an expression -/
theorem goS {α : Type} {o : Out α} {k : α → C → Fw} {N : C → Prop} {R : Fl → D → C → Prop} (h : PostF (o.w k) (XS ct W lv sp y) N R) : Post o (XW ct lv y σ W) fun a c => PostF (k a c) (XS ct W lv sp y) N R := by
  rw [PostF.w] at h
  exact h.imp XS.xw fun _ _ z => z

/-! ### blocks -/
theorem l_nil : PSs X [] (tL ct cl sg W lv sp []) := pss_nil.conseq fun D σ H ⟨y, c, s, h⟩ => by
  simp only [exL] at h
  exact h y σ H .refl s
theorem l_cons {i : IS} {is : List IS} {st : Stmt} {ss : List Stmt} (h1 : PS X st (tS ct cl sg W lv sp i)) (h2 : PSs X ss (tL ct cl sg W lv sp is)) : PSs X (st :: ss) (tL ct cl sg W lv sp (i :: is)) :=
  (pss_cons h1 h2).conseq fun D σ H ⟨y, c, s, h⟩ => by
    simp only [exL] at h
    rw [PostF.then] at h
    exact ⟨y, c, s, h.imp (fun _ _ z => z) (fun c1 q y1 σ1 H1 x1 s1 => ⟨y1, c1, s1, q.ext x1⟩) fun _ _ _ z => z⟩
theorem s_never {st : Stmt} : PS X st (tS ct cl sg W lv sp .never) := ps_never.conseq fun D σ H ⟨y, c, s, h⟩ => by
  simp only [exS] at h
  exact h
theorem l_never {ss : List Stmt} {is : List IS} : PSs X ss (tL ct cl sg W lv sp (.never :: is)) := pss_never.conseq fun D σ H ⟨y, c, s, h⟩ => by
  simp only [exL, exS] at h
  exact h

/-! ### small statements -/
theorem s_pass {pos : Pos} : PS X (.Pass pos) (tS ct cl sg W lv sp .pass) := ps_pass.conseq fun D σ H ⟨y, c, s, h⟩ => by
  simp only [exS] at h
  exact h y σ H .refl s
theorem s_doc {x j pos pos'} : PS X (.Expr (.Constant (.str x) j pos) pos') (tS ct cl sg W lv sp .pass) := ps_doc.conseq fun D σ H ⟨y, c, s, h⟩ => by
  simp only [exS] at h
  exact h y σ H .refl s
theorem s_expr {e : Expr} {i : IE} {pos : Pos} (he : PE X e (tE ct cl sg W lv i)) (hs : swapsWith e none pos.line X.env = pure false) : PS X (.Expr e pos) (tS ct cl sg W lv sp (.expr i)) :=
  (ps_expr he hs).conseq fun D σ H ⟨y, c, s, h⟩ => by
    simp only [exS] at h
    exact ⟨y, c, s, (goS h).imp (fun _ _ z => z) fun r c1 q y1 v H1 x1 s1 r1 => q y1 σ H1 (.of x1) s1⟩
theorem s_ret {e : Expr} {i : IE} {pos : Pos} (he : PE X e (tE ct cl sg W lv i)) : PS X (.Return (some e) pos) (tS ct cl sg W lv sp (.ret i)) :=
  (ps_ret he).conseq fun D σ H ⟨y, c, s, h⟩ => by
    simp only [exS] at h
    exact toZ s ((goS h).imp (fun _ _ z => z) fun fd c1 q y1 v H1 x1 s1 r1 => q y1 σ v H1 (.of x1) s1 r1.nrm)
theorem s_retN {pos : Pos} : PS X (.Return none pos) (tS ct cl sg W lv sp .retN) := ps_retN.conseq fun D σ H ⟨y, c, s, h⟩ => by
  simp only [exS] at h
  exact h y σ .non H .refl s (by simp [Rp])
theorem s_if {e : Expr} {a b : List Stmt} {i : IE} {ia ib : List IS} {pos : Pos} (he : PT X e (tT ct cl sg W lv i)) (ha : PSs X a (tL ct cl sg W lv sp ia)) (hb : PSs X b (tL ct cl sg W lv sp ib)) : PS X (.If e a b pos) (tS ct cl sg W lv sp (.ite i ia ib)) :=
  (ps_if he ha hb).conseq fun D σ H ⟨y, c, s, h⟩ => by
    simp only [exS] at h
    refine ⟨y, c, s, (goS h).imp (fun _ _ z => z) fun k c1 q y1 H1 x1 s1 => ?_⟩
    cases k with
    | true => rw [if_pos rfl]; exact ⟨y1, c1, s1, PostF.ext (.of x1) q⟩
    | false => rw [if_neg Bool.false_ne_true]; exact ⟨y1, c1, s1, PostF.ext (.of x1) q⟩
theorem frzW {α : Type} {r : R} {v : V} {k : Fl × D → C → Fw} {N : C → Prop} {Rr : Fl → D → C → Prop} (s : SR y lv c σ H) (h : RelR y lv c σ H r v) (q : PostF ((frz lv c r).w k) (XS ct W lv sp y) N Rr) :
    ∃ f d c' y', PostF (k (f, d) c') (XS ct W lv sp y) N Rr ∧ Ext y lv y' ∧ SR y' lv c' σ H ∧ Rp y'.sx (regm y'.G lv f) d v := by
  rw [PostF.w] at q
  exact frz_ok s h q
theorem PostF.ext' {o : Fw} {N : C → Prop} {R : Fl → D → C → Prop} (x : Ext y lv y') (h : PostF o (XS ct W lv sp y) N R) : PostF o (XS ct W lv sp y') N R := h.imp (XS.ext (.of x)) (fun _ z => z) fun _ _ _ z => z
/-- a name is given a value -/
theorem s_name' {e : Expr} {i : Nat} {own : Bool} {ie : IE} {pos px : Pos} {x : Str} (h : PS X (.Assign [.Name x px] e pos) (tAsg (tE ct cl sg W lv ie) (gName i))) : PS X (.Assign [.Name x px] e pos) (tS ct cl sg W lv sp (.asg i own ie)) :=
  h.conseq fun D σ H ⟨y, c, s, h⟩ => by
    simp only [exS] at h
    refine ⟨y, c, s, (goS h).imp (fun _ _ z => z) fun r c1 q y1 v H1 x1 s1 r1 => ?_⟩
    have shr : PostF ((frz lv c1 r).w fun (f, d) c => .nx { c with r := c.r.set i (.sh (nrm d f) d) }) (XS ct W lv sp y) (NK lv sp y D.nx) (RK lv sp y D.rt) → D.nx (σ.set i (some v)) H1 := fun q => by
      rw [PostF.w] at q
      obtain ⟨f, d, c2, y2, k, x2, s2, rp⟩ := frz_ok s1 r1 q
      exact k y2 _ H1 (.of (x1.trans x2)) (s2.store rp.nrm)
    cases own with
    | false => exact shr q
    | true =>
      cases r with
      | val f d => exact shr q
      | bor j => exact shr q
      | new f d =>
        obtain ⟨p, rfl, o, n⟩ := r1
        exact q y1 _ H1 (.of x1) (s1.own o n)
theorem s_asgT {tg e : Expr} {ts : List Nat} {ie : IE} {pos : Pos} (he : PE X e (tE ct cl sg W lv ie)) (hg : ∀ f, PG X tg (gT lv f ts false)) (hs : swapsWithSole [tg] e pos.line X.env = pure false) (hw : swappedStores [tg] e X.env = pure none) (h1 : (assignEach [tg] X.env).map (·.2) = [assign tg X.env]) :
    PS X (.Assign [tg] e pos) (tS ct cl sg W lv sp (.asgT ts ie)) := by
  have hg' : PG X tg (fun v σ H Q => ∃ f, gT lv f ts false v σ H Q) := ⟨fun pins s1 σ H1 v u Q I r ⟨f, q⟩ => (hg f).run pins s1 σ H1 v u Q I r q⟩
  refine (ps_asg he hg' hs hw h1).conseq fun D σ H ⟨y, c, s, h⟩ => ?_
  simp only [exS] at h
  refine toZ s ((goS h).imp (fun _ _ z => z) fun fd c1 q y1 v H1 x1 s1 r1 => ?_)
  obtain ⟨f, d⟩ := fd
  rw [PostF.w, Post.ofOpt] at q
  obtain ⟨r', hr, q⟩ := q
  refine ⟨f, y1, c1, d, r', s1, r1, ?_, fun σ' s2 _ => q y1 σ' H1 (.of x1) s2⟩
  cases d <;> first | (simp [seqOf] at hr; done) | exact hr
theorem s_setIx {e ix : Expr} {i : Nat} {x : Str} {ie iix : IE} {pos px ps : Pos} (hN : X.N[i]? = some x) (hv : Vis X.env.scope x) (hd : (x == ("__debug__" : Str)) = false) (hcd : (x == ("__classdict__" : Str)) = false) (he : PE X e (tE ct cl sg W lv ie)) (hi : PE X ix (tE ct cl sg W lv iix))
    (ha : ∀ v, assign (.Subscript (.Name x px) ix ps) X.env v = (do
      let ov ← holding [v] (eval (.Name x px) X.env)
      let iv ← holding [v, ov] (eval ix X.env)
      standAt ps
      holding [v, ov, iv] (setItem ov iv v)
      release [v, ov, iv] [])) (hs : swapsWithSole [.Subscript (.Name x px) ix ps] e pos.line X.env = pure false) (hw : swappedStores [.Subscript (.Name x px) ix ps] e X.env = pure none) :
    PS X (.Assign [.Subscript (.Name x px) ix ps] e pos) (tS ct cl sg W lv sp (.setIx i iix ie)) :=
  (ps_asg he (pg_sub (pe_var hN hv hd hcd) hi set_list ha) hs hw rfl).conseq fun D σ H ⟨y, c, s, h⟩ => by
    simp only [exS] at h
    refine toZ s ((goS h).imp (fun _ _ z => z) fun fd c1 q y1 v H1 x1 s1 r1 => ?_)
    obtain ⟨g, d⟩ := fd
    dsimp only at q
    by_cases ho : isOwnL c1 i = true
    case neg => rw [if_neg ho] at q; exact q.elim
    rw [if_pos ho] at q
    obtain ⟨f0, xs0, p, vs0, h2, h3, h4, h5⟩ := ownL s1 ho
    refine ⟨.ref p, h3, toZ s1 ((goS (PostF.ext' x1 q)).imp (fun _ _ z => z) fun kd c2 q2 y2 u H2 x2 s2 r2 => ?_)⟩
    obtain ⟨g2, kk⟩ := kd
    split at q2
    · rename_i f xs n hs2 hk
      have hk : kk = .int n := hk
      subst hk
      split at q2
      · rename_i j hj
        have hu : u = .int n := by simpa only [Rp] using r2
        subst hu
        obtain ⟨ws, h6, h7⟩ := ownC s2 hs2 h3
        have rv := Rp.ext x2 s1 s2 r1
        refine ⟨p, ws, n, j, rfl, rfl, h6, by rw [h7.length]; exact hj, q2 y2 _ _ (.of (x1.trans x2)) (s2.change hs2 h3 (Rps.set (Rp.mono (Pre.refl _) (regm_join_r s2.g) _ _ rv.nrm) j (Rps.mono (Pre.refl _) (regm_join_l s2.g) _ _ h7)))⟩
      · exact q2.elim
    · exact q2.elim
end
end Sd


/-! Sd20b: new things that wait. -/
namespace Sd
open PySem PySem.Spec PyProof.Rows L2
abbrev Dy.hold (y : Dy) (p : Addr) (o : HO) : Dy := { y with Z := upd y.Z p o, B := upd y.B p o }
abbrev Dy.let (y2 y : Dy) : Dy := { y2 with Z := y.Z, B := y.B }
section
variable {y y2 : Dy} {lv : Nat} {c c2 : C} {σ σ2 : L2.St} {H H2 : Hp} {p : Addr} {o : HO}
theorem OwnR.ne {f : Fl} {d : D} {q : Addr} (h : OwnR y lv H f d q) (n : ∀ i, ¬ OwnAt c σ i p) {i : Nat} (hi : c.r[i]? = some (.ow f d)) (hq : σ[i]? = some (some (.ref q))) : q ≠ p := fun e => n i ⟨⟨f, d, hi⟩, e ▸ hq⟩
theorem SR.hold (s : SR y lv c σ H) (hp : H p = some o) (h1 : y.G lv p = none) (h4 : NotStr y.sx p) (n : ∀ i, ¬ OwnAt c σ i p) : SR (y.hold p o) lv c σ H := by
  have none_ne : ∀ {G : Hp} {a : Addr}, a ≠ p → upd G p o a = G a := fun {G a} h => upd_ne h
  refine ⟨s.pos, fun a h => ?_, s.g, s.top, fun a u h => ?_, fun a h => ?_, fun a u h => ?_, fun i sl hi => ?_, s.inj, ⟨s.str.len, s.str.at_, fun q hq => ?_, s.str.nd⟩, s.len⟩
  · by_cases e : a = p
    · subst e; show upd y.B a o a ≠ none; rw [upd_same]; exact (fun z => by cases z)
    · show upd y.B p o a ≠ none
      rw [upd_ne e]; exact s.zb a (by have h : upd y.Z p o a ≠ none := h; rw [upd_ne e] at h; exact h)
  · have h : upd y.Z p o a = some u := h
    by_cases e : a = p
    · subst e; rw [upd_same] at h; cases h; exact hp
    · rw [upd_ne e] at h; exact s.prot a u h
  · have h : upd y.B p o a ≠ none := h
    by_cases e : a = p
    · subst e; rw [hp]; exact (fun z => by cases z)
    · rw [upd_ne e] at h; exact s.old a h
  · have e : a ≠ p := fun e => by subst e; rw [h1] at h; cases h
    show y.G 0 a = some u ∨ upd y.B p o a = none
    rw [upd_ne e]; exact s.fresh a u h
  · have q := s.slots i sl hi
    cases sl with
    | un => trivial
    | sh f d => exact q
    | ow f d =>
      obtain ⟨q1, e1, o1, o2, o3, o4, o5⟩ := q
      have e : q1 ≠ p := fun e => n i ⟨⟨f, d, hi⟩, getD_some.mp (e ▸ e1)⟩
      exact ⟨q1, e1, o1, by show upd y.Z p o q1 = none; rw [upd_ne e]; exact o2, by show upd y.B p o q1 = none; rw [upd_ne e]; exact o3, o4, o5⟩
  · obtain ⟨a1, a2, a3, a4⟩ := s.str.off q hq
    obtain ⟨n1, n2⟩ := h4 q hq
    exact ⟨a1, a2, by show upd y.Z p o q.1 = none; rw [upd_ne (Ne.symm n1)]; exact a3, by show upd y.Z p o q.2 = none; rw [upd_ne (Ne.symm n2)]; exact a4⟩
theorem let_none {G : Hp} {a : Addr} (h : upd G p o a = none) : a ≠ p ∧ G a = none := by
  have e : a ≠ p := fun e => by subst e; rw [upd_same] at h; cases h
  exact ⟨e, by rw [upd_ne e] at h; exact h⟩
theorem Ext.let (x : Ext (y.hold p o) lv y2) : Ext y lv (y2.let y) := ⟨rfl, rfl, x.g, x.s⟩
theorem OwnR.let (x : Ext (y.hold p o) lv y2) {f : Fl} {d : D} {q : Addr} (h : OwnR y2 lv H2 f d q) : q ≠ p ∧ OwnR (y2.let y) lv H2 f d q := by
  obtain ⟨o1, o2, o3, o4, o5⟩ := h
  rw [x.z] at o2
  rw [x.b] at o3
  exact ⟨(let_none o2).1, o1, (let_none o2).2, (let_none o3).2, o4, o5⟩
/-- what waited stands as it stood -/
theorem SR.let (s : SR y lv c σ H) (h1 : y.G lv p = none) (hz : y.Z p = none) (x : Ext (y.hold p o) lv y2) (s2 : SR y2 lv c2 σ2 H2) :
    SR (y2.let y) lv c2 σ2 H2 ∧ H2 p = some o ∧ y2.G lv p = none ∧ NotStr y2.sx p ∧ ∀ i, ¬ OwnAt c2 σ2 i p := by
  have zp : y2.Z p = some o := by rw [x.z]; exact upd_same
  have bp : y2.B p ≠ none := by rw [x.b]; show upd y.B p o p ≠ none; rw [upd_same]; exact (fun z => by cases z)
  refine ⟨⟨s2.pos, s.zb, s2.g, s2.top, fun a u h => ?_, fun a h => ?_, fun a u h => ?_, fun i sl hi => ?_, s2.inj, ⟨s2.str.len, s2.str.at_, fun q hq => ?_, s2.str.nd⟩, s2.len⟩, s2.prot p o zp, ?_, fun q hq => ?_, fun i hi => ?_⟩
  · by_cases e : a = p
    · subst e
      exfalso
      have h : y.Z a = some u := h
      rw [hz] at h; cases h
    · exact s2.prot a u (by rw [x.z]; show upd y.Z p o a = some u; rw [upd_ne e]; exact h)
  · by_cases e : a = p
    · subst e; rw [s2.prot a o zp]; exact (fun z => by cases z)
    · exact s2.old a (by rw [x.b]; show upd y.B p o a ≠ none; rw [upd_ne e]; exact h)
  · rcases s2.fresh a u h with z | z
    · exact .inl z
    · rw [x.b] at z; exact .inr (let_none z).2
  · have q := s2.slots i sl hi
    cases sl with
    | un => trivial
    | sh f d => exact q
    | ow f d => obtain ⟨q1, e1, e2⟩ := q; exact ⟨q1, e1, (e2.let x).2⟩
  · obtain ⟨a1, a2, a3, a4⟩ := s2.str.off q hq
    rw [x.z] at a3 a4
    exact ⟨a1, a2, (let_none a3).2, (let_none a4).2⟩
  · cases e : y2.G lv p with
    | none => rfl
    | some u =>
      rcases s2.fresh p u e with z | z
      · rw [x.g.low 0 s.pos] at z
        have := (s.g.mono 0 lv (Nat.zero_le _)).none h1
        have z : y.G 0 p = some u := z
        rw [this] at z; cases z
      · exact absurd z bp
  · obtain ⟨_, _, a3, a4⟩ := s2.str.off q hq
    exact ⟨(fun e => by rw [← e, zp] at a3; cases a3), (fun e => by rw [← e, zp] at a4; cases a4)⟩
  · obtain ⟨⟨f, d, hf⟩, hs⟩ := hi
    obtain ⟨q1, e1, _, o2, _⟩ := s2.slots i _ hf
    rw [getD_some.mpr hs] at e1
    cases e1
    rw [zp] at o2; cases o2
end
/-! ### values, some of them new -/
def nws : List R → List V → List V
  | .new _ _ :: rs, v :: vs => v :: nws rs vs
  | _ :: rs, _ :: vs => nws rs vs
  | _, _ => []
def RelN (y : Dy) (lv : Nat) (c : C) (σ : L2.St) (H : Hp) : List R → List V → Prop
  | [], vs => vs = []
  | r :: rs, vs => ∃ v w, vs = v :: w ∧ (RelR y lv c σ H r v ∧ ∀ i, r ≠ .bor i) ∧ RelN y lv c σ H rs w
theorem nws_own {y : Dy} {lv : Nat} {c : C} {σ : L2.St} {H : Hp} : ∀ {rs : List R} {vs : List V}, RelN y lv c σ H rs vs → ∀ v ∈ nws rs vs, ∃ f d p, v = .ref p ∧ OwnR y lv H f d p
  | [], vs, h, v, hv => by simp only [RelN] at h; subst h; simp [nws] at hv
  | r :: rs, vs, h, v, hv => by
    simp only [RelN] at h
    obtain ⟨u, w, rfl, h1, h2⟩ := h
    cases r with
    | val f d => exact nws_own h2 v hv
    | bor i => exact nws_own h2 v hv
    | new f d =>
      simp only [nws] at hv
      rcases List.mem_cons.mp hv with rfl | hv
      · obtain ⟨⟨p, rfl, o, _⟩, _⟩ := h1; exact ⟨f, d, p, rfl, o⟩
      · exact nws_own h2 v hv
section
variable (ct : Ct) (cl : Caller) (sg : Sig) (W : WX) (lv : Nat)
def tAn (es : List (Bool × IE)) : TA := fun σ H Q => ∃ y c, SR y lv c σ H ∧ Post (evN cl sg lv es c) (XW ct lv y σ W) fun rs c' => ∀ y' vs H', Ext y lv y' → SR y' lv c' σ H' → RelN y' lv c' σ H' rs vs → (nws rs vs).Nodup → Q vs H'
end
section
variable {X : Cx} {ct : Ct} {cl : Caller} {sg : Sig} {W : WX} {lv : Nat} {y y2 : Dy} {c c2 : C} {σ : L2.St} {H H2 : Hp} {p : Addr} {o : HO}
theorem RelN.let (x : Ext (y.hold p o) lv y2) : ∀ {rs : List R} {vs : List V}, RelN y2 lv c2 σ H2 rs vs → RelN (y2.let y) lv c2 σ H2 rs vs
  | [], vs, h => h
  | r :: rs, vs, h => by
    simp only [RelN] at h ⊢
    obtain ⟨v, w, e, ⟨h1, h0⟩, h2⟩ := h
    refine ⟨v, w, e, ⟨?_, h0⟩, h2.let x⟩
    cases r with
    | val f d => exact h1
    | bor i => exact h1
    | new f d => obtain ⟨q, e1, o1, n⟩ := h1; exact ⟨q, e1, (o1.let x).2, n⟩
theorem RelN.val {f : Fl} {d : D} {v : V} {rs : List R} {vs : List V} (h : Rp y.sx (regm y.G lv f) d v) (k : RelN y lv c σ H rs vs) : RelN y lv c σ H (.val (nrm d f) d :: rs) (v :: vs) := by
  simp only [RelN]; exact ⟨v, vs, rfl, ⟨h.nrm, fun i z => by cases z⟩, k⟩
theorem a_nilN : PA X [] (tAn ct cl sg W lv []) := pa_nil.conseq fun σ H Q ⟨y, c, s, h⟩ => by
  simp only [evN] at h
  exact h y [] H Ext.refl s (by simp [RelN]) (by simp [nws])
theorem a_consN {b : Bool} {a : IE} {as : List (Bool × IE)} {e : Expr} {es : List Expr} (ha : PE X e (tE ct cl sg W lv a)) (hr : PA X es (tAn ct cl sg W lv as)) (hs : isStar e = false) : PA X (e :: es) (tAn ct cl sg W lv ((b, a) :: as)) :=
  (pa_cons ha hr (notStar hs)).conseq fun σ H Q ⟨y, c, s, h⟩ => by
    simp only [evN] at h
    rw [Post.bind] at h
    refine ⟨y, c, s, h.imp (fun _ _ z => z) fun r c1 q1 y1 v H1 x1 s1 r1 => ?_⟩
    have plain : ∀ {K : List R → C → Prop}, Post ((frz lv c1 r).bind fun (f, d) c => (evN cl sg lv as c).bind fun rs c => .ok (.val (nrm d f) d :: rs) c) (XW ct lv y σ W) (fun rs c' => ∀ y' vs H', Ext y lv y' → SR y' lv c' σ H' → RelN y' lv c' σ H' rs vs → (nws rs vs).Nodup → Q vs H') → tAn ct cl sg W lv as σ H1 (fun vs H2 => Q (v :: vs) H2) := fun {K} q => by
      rw [Post.bind] at q
      obtain ⟨f, d, c3, y3, q3, x3, s3, r3⟩ := frz_ok s1 r1 q
      dsimp only at q3
      rw [Post.bind] at q3
      refine ⟨y3, c3, s3, q3.imp (XW.ext (x1.trans x3)) fun rs c4 q4 y4 vs H4 x4 s4 r4 n4 => ?_⟩
      exact q4 y4 (v :: vs) H4 ((x1.trans x3).trans x4) s4 (.val (Rp.ext x4 s3 s4 r3) r4) n4
    split at q1
    · rename_i f d _
      rw [Post.bind] at q1
      obtain ⟨p, rfl, o1, n1⟩ := r1
      have o1' := o1
      obtain ⟨g1, g2, g3, g4, g5⟩ := o1
      cases d <;> first | exact g5.elim | skip
      rename_i xs
      obtain ⟨ws, g6, g7⟩ := g5
      refine ⟨y1.hold p (.lst ws), c1, s1.hold g6 g1 g4 n1, q1.imp (fun e c2 z y' H' cv dd x s r => ?_) fun rs c2 q2 y2 vs H2 x2 s2 r2 nd => ?_⟩
      · obtain ⟨s3, _⟩ := s1.let g1 g2 x s
        exact z (y'.let y1) H' cv dd (x1.trans x.let) s3 r
      · obtain ⟨s3, e1, e2, e3, e4⟩ := s1.let g1 g2 x2 s2
        have b0 : (y2.let y1).B p = none := g3
        refine q2 (y2.let y1) (.ref p :: vs) H2 (x1.trans x2.let) s3 ?_ ?_
        · simp only [RelN]
          exact ⟨_, _, rfl, ⟨⟨p, rfl, ⟨e2, g2, g3, e3, ws, e1, Rps.ext x2.let s1 s3 g7⟩, e4⟩, fun i z => by cases z⟩, r2.let x2⟩
        · simp only [nws, List.nodup_cons]
          refine ⟨fun hm => ?_, nd⟩
          obtain ⟨f', d', q', e, ow⟩ := nws_own r2 _ hm
          cases e
          exact (ow.let x2).1 rfl
    · exact plain (K := fun _ _ => True) q1
theorem RelN.set {t : Nat} {sl : Slot} {v : V} (hs : ∀ f d, sl = .ow f d → ∃ p, v = .ref p) : ∀ {rs : List R} {w : List V} {c : C} {σ : L2.St}, RelN y lv c σ H rs w → (∀ f d, sl = .ow f d → v ∉ nws rs w) → RelN y lv { c with r := c.r.set t sl } (σ.set t (some v)) H rs w
  | [], w, c, σ, h, _ => h
  | r :: rs, w, c, σ, h, nd => by
    simp only [RelN] at h ⊢
    obtain ⟨u, z, rfl, ⟨k1, k0⟩, k2⟩ := h
    have nd2 : ∀ f d, sl = .ow f d → v ∉ nws rs z := fun f d e hm => by
      refine nd f d e ?_
      cases r <;> first | exact hm | (simp only [nws]; exact List.mem_cons_of_mem _ hm)
    refine ⟨u, z, rfl, ⟨?_, k0⟩, RelN.set hs k2 nd2⟩
    cases r with
    | val f d => exact k1
    | bor i => exact absurd rfl (k0 i)
    | new f2 d2 =>
      obtain ⟨q, rfl, o1, n⟩ := k1
      refine ⟨q, rfl, o1, fun i ⟨⟨f3, d3, h3⟩, h4⟩ => ?_⟩
      have h3 : (c.r.set t sl)[i]? = some (.ow f3 d3) := h3
      by_cases hij : t = i
      · subst hij
        have hi : t < c.r.length := by
          have := (List.getElem?_eq_some_iff.mp h3).1
          simpa using this
        have hi2 : t < σ.length := by
          have := (List.getElem?_eq_some_iff.mp h4).1
          simpa using this
        rw [List.getElem?_set_self hi] at h3
        rw [List.getElem?_set_self hi2] at h4
        cases h3; cases h4
        exact nd f3 d3 rfl (by simp [nws])
      · rw [List.getElem?_set_ne hij] at h3 h4; exact n i ⟨⟨f3, d3, h3⟩, h4⟩
theorem a_mapN {f : Expr → IE} : ∀ {fs : List Bool} {es : List Expr}, (∀ e, PE X e (tE ct cl sg W lv (f e))) → es.any isStar = false → fs.length = es.length → PA X es (tAn ct cl sg W lv (fs.zip (es.map f)))
  | [], [], _, _, _ => a_nilN
  | b :: fs, e :: es, h, hs, hl => by
    have h1 : isStar e = false ∧ es.any isStar = false := by simpa using hs
    exact a_consN (h e) (a_mapN h h1.2 (by simpa using hl)) h1.1
  | [], _ :: _, _, _, hl => by simp at hl
  | _ :: _, [], _, _, hl => by simp at hl
/-- the slots behind -/
theorem SR.setRs : ∀ {ts : List Nat} {rs : List R} {vs : List V} {c : C} {σ : L2.St} {r' : List Slot}, SR y lv c σ H → RelN y lv c σ H rs vs → (nws rs vs).Nodup → Sd.setRs ts rs c.r = some r' → vs.length = ts.length ∧ SR y lv { c with r := r' } (setV σ ts vs) H
  | [], [], vs, c, σ, r', s, r, nd, h => by
    simp only [Sd.setRs, Option.some.injEq] at h
    subst h
    simp only [RelN] at r
    subst r
    exact ⟨rfl, s⟩
  | t :: ts, .val f d :: rs, vs, c, σ, r', s, r, nd, h => by
    simp only [RelN] at r
    obtain ⟨v, w, rfl, ⟨h1, _⟩, h2⟩ := r
    simp only [Sd.setRs] at h
    obtain ⟨a, b⟩ := SR.setRs (ts := ts) (rs := rs) (c := { c with r := c.r.set t (.sh f d) }) (s.store h1) (h2.set (fun _ _ z => by cases z) (fun _ _ z => by cases z)) nd h
    exact ⟨by simp [a], b⟩
  | t :: ts, .new f d :: rs, vs, c, σ, r', s, r, nd, h => by
    simp only [RelN] at r
    obtain ⟨v, w, rfl, ⟨⟨p, rfl, o1, n1⟩, _⟩, h2⟩ := r
    simp only [Sd.setRs] at h
    simp only [nws, List.nodup_cons] at nd
    obtain ⟨a, b⟩ := SR.setRs (ts := ts) (rs := rs) (c := { c with r := c.r.set t (.ow f d) }) (s.own o1 n1) (h2.set (fun _ _ _ => ⟨p, rfl⟩) (fun _ _ _ => nd.1)) nd.2 h
    exact ⟨by simp [a], b⟩
  | [], _ :: _, _, _, _, _, _, _, _, h => by simp [Sd.setRs] at h
  | _ :: _, [], _, _, _, _, _, _, _, h => by simp [Sd.setRs] at h
  | _ :: _, .bor _ :: _, _, _, _, _, _, _, _, h => by simp [Sd.setRs] at h
end
end Sd

/-! Sd21: pairs, loops, regions. -/
namespace Sd
open PySem PySem.Spec PyProof.Rows L2
theorem swap_eq {env : Env} {sc : Scope} (hk : env.scope.kind = .function) (hs : env.scope = sc) {ts vs : List Expr} {r : Option (List Str)} {k k2 : Nat} {p p2 : Pos} (h : swapN sc ts vs = some r) : swappedStores [.Tuple ts k p] (.Tuple vs k2 p2) env = pure r := by
  have hb : env.blockKind = .function := by unfold Env.blockKind; rw [hk]; rfl
  have hst : (vs.any fun | .Starred .. => true | _ => false) = vs.any isStar := by
    congr 1
  unfold swappedStores
  unfold swapN at h
  simp only [hb, hst]
  have hkind : ∀ x, env.kindOf x = sc.names.lookup x := fun x => by rw [← hs]; rfl
  simp only [hkind]
  have z : (ScopeKind.function != ScopeKind.function) = false := by decide
  rw [z, Bool.or_false]
  by_cases h1 : (!(ts.length == 2 || ts.length == 3) || vs.length != ts.length) = true
  · rw [if_pos h1] at h ⊢
    cases h; rfl
  rw [if_neg h1] at h ⊢
  by_cases h2 : vs.any isStar = true
  · rw [if_pos h2] at h
    cases h
    exact if_pos h2
  rw [if_neg h2] at h
  refine (if_neg h2).trans ?_
  dsimp only at h
  split at h
  · rename_i h3
    cases h
    exact if_pos h3
  · rename_i h3
    refine (if_neg h3).trans ?_
    split at h
    · rename_i h4
      cases h
      exact if_pos h4
    · rename_i h4
      refine (if_neg h4).trans ?_
      split at h
      · cases h
      · rename_i h5
        cases h
        exact if_neg h5
section
variable {X : Cx} {ct : Ct} {cl : Caller} {sg : Sig} {W : WX} {lv : Nat} {sp : Bool} {y y' : Dy} {c : C} {σ : L2.St} {H : Hp}

/-! ### pairs -/
theorem par_go {ts : List Nat} {es : List IE} {Q : List V → Hp → Prop} {D : Ends} (s : SR y lv c σ H) (h : PostF (exS cl sg lv sp (.par ts es) c) (XS ct W lv sp y) (NK lv sp y D.nx) (RK lv sp y D.rt))
    (k : ∀ y1 c1 H1 f ds vs r', Ext y lv y1 → SR y1 lv c1 σ H1 → Rps y1.sx (regm y1.G lv f) ds vs → setTs f ts ds c1.r = some r' → (∀ y2 σ' H2, Ext y lv y2 → SR y2 lv { c1 with r := r' } σ' H2 → D.nx σ' H2) → Q vs H1) : tAf ct cl sg W lv es σ H Q := by
  simp only [exS] at h
  refine ⟨y, c, s, (goS h).imp (fun _ _ z => z) fun fd c1 q y1 vs H1 x1 s1 r1 => ?_⟩
  obtain ⟨f, ds⟩ := fd
  rw [PostF.w, Post.ofOpt] at q
  obtain ⟨r', hr, q⟩ := q
  exact k y1 c1 H1 f ds vs r' x1 s1 r1 hr fun y2 σ' H2 x2 s2 => q y2 σ' H2 (.of x2) s2
theorem s_par2 {i j : Nat} {x z : Str} {a b : Expr} {es : List IE} {px py pt pos : Pos} {kt k2 : Nat} {pt2 : Pos} (hc : X.calm = true) (hN : X.N.Nodup) (hi : X.N[i]? = some x) (hj : X.N[j]? = some z) (hij : i ≠ j) (hx : X.env.scope.names.lookup x = some .local) (hz : X.env.scope.names.lookup z = some .local)
    (ha : PA X [a, b] (tAf ct cl sg W lv es)) (hw : swappedStores [.Tuple [.Name x px, .Name z py] kt pt] (.Tuple [a, b] k2 pt2) X.env = pure (some [x, z])) :
    PS X (.Assign [.Tuple [.Name x px, .Name z py] kt pt] (.Tuple [a, b] k2 pt2) pos) (tS ct cl sg W lv sp (.par [i, j] es)) :=
  (ps_par hc hN hi hj hij hx hz ha hw).conseq fun D σ H ⟨y, c, s, h⟩ => par_go s h fun y1 c1 H1 f ds vs r' x1 s1 r1 hr k => by
    have l1 := setTs_len hr
    have l2 := r1.length
    match vs, l2.trans l1 with
    | [v, w], _ => exact ⟨v, w, rfl, k y1 _ H1 x1 (s1.setTs r1 hr)⟩
theorem s_par3 {i j l : Nat} {x z u : Str} {a b d : Expr} {es : List IE} {px py pz pt pos : Pos} {kt k2 : Nat} {pt2 : Pos} (hc : X.calm = true) (hN : X.N.Nodup) (hi : X.N[i]? = some x) (hj : X.N[j]? = some z) (hl : X.N[l]? = some u) (hij : i ≠ j) (hil : i ≠ l) (hjl : j ≠ l)
    (hx : X.env.scope.names.lookup x = some .local) (hz : X.env.scope.names.lookup z = some .local) (hu : X.env.scope.names.lookup u = some .local)
    (ha : PA X [a, b, d] (tAf ct cl sg W lv es)) (hw : swappedStores [.Tuple [.Name x px, .Name z py, .Name u pz] kt pt] (.Tuple [a, b, d] k2 pt2) X.env = pure (some [x, z, u])) :
    PS X (.Assign [.Tuple [.Name x px, .Name z py, .Name u pz] kt pt] (.Tuple [a, b, d] k2 pt2) pos) (tS ct cl sg W lv sp (.par [i, j, l] es)) :=
  (ps_par3 hc hN hi hj hl hij hil hjl hx hz hu ha hw).conseq fun D σ H ⟨y, c, s, h⟩ => par_go s h fun y1 c1 H1 f ds vs r' x1 s1 r1 hr k => by
    have l1 := setTs_len hr
    have l2 := r1.length
    match vs, l2.trans l1 with
    | [v, w, t], _ => exact ⟨v, w, t, rfl, k y1 _ H1 x1 (s1.setTs r1 hr)⟩
theorem s_parT {ts : List Nat} {es : List IE} {tes ves : List Expr} {kt k2 : Nat} {pt pt2 pos : Pos} (hg : ∀ f, PG X (.Tuple tes kt pt) (gT lv f ts false)) (ha : PA X ves (tAf ct cl sg W lv es)) (hl : ts.length ≤ 9) (hw : swappedStores [.Tuple tes kt pt] (.Tuple ves k2 pt2) X.env = pure none) :
    PS X (.Assign [.Tuple tes kt pt] (.Tuple ves k2 pt2) pos) (tS ct cl sg W lv sp (.par ts es)) := by
  have hg' : PG X (.Tuple tes kt pt) (fun v σ H Q => ∃ f, gT lv f ts false v σ H Q) := ⟨fun pins s1 σ H1 v u Q I r ⟨f, q⟩ => (hg f).run pins s1 σ H1 v u Q I r q⟩
  refine (ps_asg (pe_tup ha) hg' rfl hw rfl).conseq fun D σ H ⟨y, c, s, h⟩ => par_go s h fun y1 c1 H1 f ds vs r' x1 s1 r1 hr k => ?_
  have l1 := setTs_len hr
  have l2 := r1.length
  refine ⟨by rw [l2, l1]; exact Nat.le_trans hl (by rw [sizeLine_eq]; decide), fun p hp => ?_⟩
  obtain ⟨h1, h2, h3, h4, h5⟩ := s1.gnone hp
  have s2 := (s1.alloc (.tup vs) hp).freeze upd_same h1 h3 h4 h5
  have x2 : Ext y1 lv (y1.add lv p (.tup vs)) := Ext.add h1
  refine ⟨f, _, c1, .tup ds, r', s2, ?_, hr, fun σ' s3 _ => k _ σ' _ (x1.trans x2) s3⟩
  simp only [Rp]
  exact ⟨p, vs, rfl, regm_tup (by rw [addG_top (Nat.le_refl _), upd_same]), Rps.mono (Pre.refl _) (regm_mono s1.g (s1.g.add h1) (Gext.add h1)) _ _ r1⟩

theorem parO_go {ts : List Nat} {es : List (Bool × IE)} {Q : List V → Hp → Prop} {D : Ends} (s : SR y lv c σ H) (h : PostF (exS cl sg lv sp (.parO ts es) c) (XS ct W lv sp y) (NK lv sp y D.nx) (RK lv sp y D.rt))
    (k : ∀ vs H1, vs.length = ts.length → D.nx (setV σ ts vs) H1 → Q vs H1) : tAn ct cl sg W lv es σ H Q := by
  simp only [exS] at h
  refine ⟨y, c, s, (goS h).imp (fun _ _ z => z) fun rs c1 q y1 vs H1 x1 s1 r1 nd => ?_⟩
  rw [PostF.w, Post.ofOpt] at q
  obtain ⟨r', hr, q⟩ := q
  obtain ⟨l, s2⟩ := SR.setRs s1 r1 nd hr
  exact k vs H1 l (q y1 _ H1 (.of x1) s2)
theorem s_parO2 {i j : Nat} {x z : Str} {a b : Expr} {es : List (Bool × IE)} {px py pt pos : Pos} {kt k2 : Nat} {pt2 : Pos} (hc : X.calm = true) (hN : X.N.Nodup) (hi : X.N[i]? = some x) (hj : X.N[j]? = some z) (hij : i ≠ j) (hx : X.env.scope.names.lookup x = some .local) (hz : X.env.scope.names.lookup z = some .local)
    (ha : PA X [a, b] (tAn ct cl sg W lv es)) (hw : swappedStores [.Tuple [.Name x px, .Name z py] kt pt] (.Tuple [a, b] k2 pt2) X.env = pure (some [x, z])) :
    PS X (.Assign [.Tuple [.Name x px, .Name z py] kt pt] (.Tuple [a, b] k2 pt2) pos) (tS ct cl sg W lv sp (.parO [i, j] es)) :=
  (ps_par hc hN hi hj hij hx hz ha hw).conseq fun D σ H ⟨y, c, s, h⟩ => parO_go s h fun vs H1 l q => by
    match vs, l with
    | [v, w], _ => exact ⟨v, w, rfl, q⟩
theorem s_parO3 {i j l : Nat} {x z u : Str} {a b d : Expr} {es : List (Bool × IE)} {px py pz pt pos : Pos} {kt k2 : Nat} {pt2 : Pos} (hc : X.calm = true) (hN : X.N.Nodup) (hi : X.N[i]? = some x) (hj : X.N[j]? = some z) (hl : X.N[l]? = some u) (hij : i ≠ j) (hil : i ≠ l) (hjl : j ≠ l)
    (hx : X.env.scope.names.lookup x = some .local) (hz : X.env.scope.names.lookup z = some .local) (hu : X.env.scope.names.lookup u = some .local)
    (ha : PA X [a, b, d] (tAn ct cl sg W lv es)) (hw : swappedStores [.Tuple [.Name x px, .Name z py, .Name u pz] kt pt] (.Tuple [a, b, d] k2 pt2) X.env = pure (some [x, z, u])) :
    PS X (.Assign [.Tuple [.Name x px, .Name z py, .Name u pz] kt pt] (.Tuple [a, b, d] k2 pt2) pos) (tS ct cl sg W lv sp (.parO [i, j, l] es)) :=
  (ps_par3 hc hN hi hj hl hij hil hjl hx hz hu ha hw).conseq fun D σ H ⟨y, c, s, h⟩ => parO_go s h fun vs H1 l q => by
    match vs, l with
    | [v, w, t], _ => exact ⟨v, w, t, rfl, q⟩

/-! ### loops -/
theorem forGo_then {one : D → C → Fw} {x : D} {xs : List D} {c : C} : forGo one (x :: xs) c = (one x c).then fun c => forGo one xs c := by
  simp only [forGo]
  cases one x c <;> rfl
theorem whl_then {test : C → Out Bool} {body : C → Fw} {n : Nat} {c : C} : whlGo test body (n + 1) c = (test c).w fun k c => if k then (body c).then fun c => whlGo test body n c else .nx c := by
  simp only [whlGo]
  cases test c with
  | ok k c =>
    cases k with
    | true => simp only [Out.w, if_true]; cases body c <;> rfl
    | false => rfl
  | exc e c => rfl
  | stuck => rfl
theorem s_for {tg iter : Expr} {body : List Stmt} {ts : List Nat} {one : Bool} {it : IT} {ib : List IS} {pos : Pos} (hp : PassesOwn (model X.prog X.w) X.A X.env X.xe) (hc : X.calm = true) (hi : PI X tg iter (tI ct cl sg W lv it)) (hg : ∀ f, PG X tg (gT lv f ts one)) (hb : PSs X body (tL ct cl sg W lv false ib))
    (hs : ∀ x, foldedSetIterable iter X.env x = pure x) : PS X (.For tg iter body [] pos) (tS ct cl sg W lv sp (.for ts one it ib)) := by
  have hg' : PG X tg (fun v σ H Q => ∃ f, gT lv f ts one v σ H Q) := ⟨fun pins s1 σ H1 v u Q I r ⟨f, q⟩ => (hg f).run pins s1 σ H1 v u Q I r q⟩
  refine (ps_for hp hc hi hg' hb hs).conseq fun D σ H ⟨y, c, s, h⟩ => ?_
  simp only [exS] at h
  refine ⟨y, c, s, (goS h).imp (fun _ _ z => z) fun fd c0 q0 y0 H1 J x0 s0 iok => ?_⟩
  obtain ⟨f, xs⟩ := fd
  obtain ⟨G, Y, w, hG, hY⟩ := iok
  dsimp only at q0 w hY
  generalize hone : (fun (x : Sd.D) (c : C) => (ofOpt (setTg f ts one x c.r) c).w fun r c => exL cl sg lv false ib { c with r := r }) = one' at q0
  refine for_it (g := fun v σ H Q => ∃ f, gT lv f ts one v σ H Q) (tb := tL ct cl sg W lv false ib) (D := D) w (Pv := fun i σ' H' => ∃ y' c', Ext y0 lv y' ∧ SR y' lv c' σ' H' ∧ PostF (forGo one' (xs.drop i) c') (XS ct W lv sp y) (NK lv sp y D.nx) (RK lv sp y D.rt)) ⟨y0, c0, Ext.refl, s0, q0⟩ ?_ ?_ ?_
  · rintro i σ' H' hi ⟨y', c', x', s', q⟩
    exact hG _ (x'.g.up.trans s'.top)
  · rintro i x σ' Hc H' hi ⟨y', c', x', s', q⟩ hy
    obtain ⟨d, hd, item⟩ := hY i Hc x H' hi (x'.g.up.trans s'.top) hy
    obtain ⟨y3, x3, s3, r3⟩ := ItOk.step (y := y0) (y2 := y') s0.g x'.s x'.g s' item
    rw [drop_cons hd, forGo_then, PostF.then] at q
    have e9 : one' d c' = (ofOpt (setTg f ts one d c'.r) c').w fun r c => exL cl sg lv false ib { c with r := r } := by rw [← hone]
    rw [e9, PostF.w, Post.ofOpt] at q
    obtain ⟨r', hr', q⟩ := q
    have x03 := x'.trans x3
    refine ⟨f, y3, c', d, r', s3, r3, hr', fun σ2 s4 _ => ⟨y3, _, s4, q.imp (fun e c z => ?_) (fun c5 z y5 σ5 H5 x5 s5 => ⟨y5, c5, x03.trans x5.ext, s5, z⟩) (fun f d c z => ?_)⟩⟩
    · exact (XS.down e c (XS.ext (.of (x0.trans x03)) e c z))
    · exact (RK.down f d c (RK.ext (.of (x0.trans x03)) f d c z))
  · rintro σ' H' ⟨y', c', x', s', q⟩
    rw [List.drop_length] at q
    exact q y' σ' H' (.of (x0.trans x')) s'
theorem s_while {e : Expr} {body : List Stmt} {ie : IE} {ib : List IS} {pos : Pos} (hp : PassesOwn (model X.prog X.w) X.A X.env X.xe) (he : PT X e (tT ct cl sg W lv ie)) (hb : PSs X body (tL ct cl sg W lv false ib)) : PS X (.While e body [] pos) (tS ct cl sg W lv sp (.while ie ib)) :=
  (ps_while hp he hb).conseq fun D σ H ⟨y, c, s, h⟩ => by
    simp only [exS] at h
    generalize fuel = n at h
    refine ⟨fun m σ' H' => ∃ y' c', Ext y lv y' ∧ SR y' lv c' σ' H' ∧ PostF (whlGo (fun c => (evE cl sg lv ie c).t lv) (fun c => exL cl sg lv false ib c) m c') (XS ct W lv sp y) (NK lv sp y D.nx) (RK lv sp y D.rt), ⟨n, y, c, Ext.refl, s, h⟩, ?_⟩
    rintro m σ' H' ⟨y', c', x', s', q⟩
    cases m with
    | zero => exact q.elim
    | succ m =>
      rw [whl_then] at q
      refine ⟨y', c', s', (goS q).imp (XW.ext x') fun k c2 q2 y2 H2 x2 s2 => ?_⟩
      cases k with
      | false =>
        simp only [Bool.false_eq_true, if_false] at q2 ⊢
        exact q2 y2 σ' H2 (.of (x'.trans x2)) s2
      | true =>
        simp only [if_true] at q2 ⊢
        rw [PostF.then] at q2
        have x02 := x'.trans x2
        refine ⟨fun σ' H' => ∃ y' c', Ext y lv y' ∧ SR y' lv c' σ' H' ∧ PostF (whlGo (fun c => (evE cl sg lv ie c).t lv) (fun c => exL cl sg lv false ib c) m c') (XS ct W lv sp y) (NK lv sp y D.nx) (RK lv sp y D.rt), fun σ3 H3 n3 => ⟨m, Nat.lt_succ_self _, n3⟩, y2, c2, s2, q2.imp (fun e c z => ?_) (fun c5 z y5 σ5 H5 x5 s5 => ⟨y5, c5, x02.trans x5.ext, s5, z⟩) fun f d c z => ?_⟩
        · exact XS.down e c (XS.ext (.of x02) e c z)
        · exact RK.down f d c (RK.ext (.of x02) f d c z)
end
end Sd

/-! Sd22: regions; every statement that is served. -/
namespace Sd
open PySem PySem.Spec PyProof.Rows L2

/-! ### a region begins, ends -/
section
variable {lv : Nat} {y : Dy} {c : C} {σ : L2.St} {H : Hp}
theorem regm_up {G : Nat → Hp} {lv : Nat} {f : Fl} (k : Gok G lv) : regm G (lv + 1) f = regm G lv f := by
  unfold regm
  rw [k.flat (lv + 1) (by omega)]
theorem SR.up (s : SR y lv c σ H) : SR y (lv + 1) c σ H := by
  have e : y.G (lv + 1) = y.G lv := s.g.flat (lv + 1) (by omega)
  refine ⟨by have := s.pos; omega, s.zb, ⟨s.g.mono, fun n h => by rw [e]; exact s.g.flat n (by omega)⟩, by rw [e]; exact s.top, s.prot, s.old, fun a o h => s.fresh a o (by rw [← e]; exact h), fun i sl hi => ?_, s.inj, ⟨s.str.len, s.str.at_, by rw [e]; exact s.str.off, s.str.nd⟩, s.len⟩
  have q := s.slots i sl hi
  cases sl with
  | un => trivial
  | sh f d => obtain ⟨v, e1, e2⟩ := q; exact ⟨v, e1, by rw [regm_up s.g]; exact e2⟩
  | ow f d =>
    obtain ⟨p, e1, o1, o2, o3, o4, o5⟩ := q
    refine ⟨p, e1, by rw [e]; exact o1, o2, o3, o4, ?_⟩
    cases d <;> first | exact o5.elim | (obtain ⟨vs, h1, h2⟩ := o5; exact ⟨vs, h1, by rw [regm_up s.g]; exact h2⟩)
/-- the region lv + 1 goes into lv -/
abbrev Dy.fold (y : Dy) (lv : Nat) : Dy := { y with G := fun n => if n < lv then y.G n else y.G (lv + 1) }
theorem regm_fold {G : Nat → Hp} {f : Fl} (h1 : 1 ≤ lv) (k : Gok G (lv + 1)) : Sub (regm G (lv + 1) f) (regm (fun n => if n < lv then G n else G (lv + 1)) lv (f.clamp lv)) := fun a o h => by
  obtain ⟨h0, h2⟩ := regm_out h
  have h0' : (fun n => if n < lv then G n else G (lv + 1)) lv a = some o := by simp [h0]
  rcases h2 with ⟨xs, rfl⟩ | ⟨h2, h3⟩
  · exact regm_tup h0'
  · unfold Fl.clamp
    by_cases hc : f.lo > f.hi
    · exfalso
      rcases h2 with h2 | h2
      · omega
      · exact h3 ((k.mono f.hi (f.lo - 1) (by omega)).none h2)
    · rw [if_neg hc]
      refine regm_in h0' ?_ ?_
      · rcases h2 with h2 | h2
        · exact .inl (by show min f.lo lv = 0; omega)
        · by_cases hz : min f.lo lv = 0
          · exact .inl hz
          · right
            show (if min f.lo lv - 1 < lv then G (min f.lo lv - 1) else G (lv + 1)) a = none
            rw [if_pos (by omega)]
            exact (k.mono (min f.lo lv - 1) (f.lo - 1) (by omega)).none h2
      · show (if min f.hi lv < lv then G (min f.hi lv) else G (lv + 1)) a ≠ none
        split
        · rename_i hl
          rw [show min f.hi lv = f.hi by omega]; exact h3
        · rw [h0]; exact fun z => by cases z
theorem SR.fold (h1 : 1 ≤ lv) (s : SR y (lv + 1) c σ H) : SR (y.fold lv) lv (clampC lv c) σ H := by
  have e : (y.fold lv).G lv = y.G (lv + 1) := by show (if lv < lv then y.G lv else y.G (lv + 1)) = _; rw [if_neg (by omega)]
  have e0 : (y.fold lv).G 0 = y.G 0 := by show (if 0 < lv then y.G 0 else y.G (lv + 1)) = _; rw [if_pos (by omega)]
  have kk : Gok (y.fold lv).G lv := by
    refine ⟨fun m n h => ?_, fun n h => ?_⟩
    · show Sub (if m < lv then y.G m else y.G (lv + 1)) (if n < lv then y.G n else y.G (lv + 1))
      split <;> split
      · exact s.g.mono m n h
      · exact s.g.mono m (lv + 1) (by omega)
      · omega
      · exact Sub.refl _
    · show (if n < lv then y.G n else y.G (lv + 1)) = _
      rw [if_neg (by omega), e]
  have slot : ∀ (i : Nat) sl, (clampC lv c).r[i]? = some sl → ∃ s0, c.r[i]? = some s0 ∧ sl = clampS lv s0 := fun i sl h => by
    have h : (c.r.map (clampS lv))[i]? = some sl := h
    rw [List.getElem?_map] at h
    cases h' : c.r[i]? with
    | none => rw [h'] at h; cases h
    | some s0 => rw [h'] at h; cases h; exact ⟨s0, rfl, rfl⟩
  refine ⟨h1, s.zb, kk, by rw [e]; exact s.top, s.prot, s.old, fun a o h => ?_, fun i sl hi => ?_, fun i j p h2 h3 => ?_, ⟨s.str.len, s.str.at_, fun q hq => ?_, s.str.nd⟩, ?_⟩
  · rw [e] at h; rw [e0]; exact s.fresh a o h
  · obtain ⟨s0, h2, rfl⟩ := slot i sl hi
    have q := s.slots i s0 h2
    cases s0 with
    | un => trivial
    | sh f d => obtain ⟨v, e1, e2⟩ := q; exact ⟨v, e1, Rp.mono (Pre.refl _) (regm_fold h1 s.g) _ _ e2⟩
    | ow f d =>
      obtain ⟨p, e1, o1, o2, o3, o4, o5⟩ := q
      refine ⟨p, e1, by rw [e]; exact o1, o2, o3, o4, ?_⟩
      cases d <;> first | exact o5.elim | (obtain ⟨vs, h1', h2'⟩ := o5; exact ⟨vs, h1', Rps.mono (Pre.refl _) (regm_fold h1 s.g) _ _ h2'⟩)
  · have bk : ∀ {i}, OwnAt (clampC lv c) σ i p → OwnAt c σ i p := fun {i} ⟨⟨f, d, h⟩, h'⟩ => by
      obtain ⟨s0, h2, e2⟩ := slot i _ h
      cases s0 <;> first | (cases e2; done) | exact ⟨⟨_, _, h2⟩, h'⟩
    exact s.inj i j p (bk h2) (bk h3)
  · rw [e]; exact s.str.off q hq
  · show (c.r.map (clampS lv)).length = _
    rw [List.length_map]; exact s.len
theorem ExtS.fold {sp : Bool} {y' : Dy} (k : Gok y'.G (lv + 1)) (x : ExtS true y (lv + 1) y') : ExtS sp y lv (y'.fold lv) := by
  refine ⟨x.z, x.b, fun n h => ?_, x.s, fun _ => ?_⟩
  · show (if n < lv then y'.G n else y'.G (lv + 1)) = _
    rw [if_pos h]; exact x.low n (by omega)
  · show Sub (y.G lv) (if lv < lv then y'.G lv else y'.G (lv + 1))
    rw [if_neg (by omega), ← x.low lv (by omega)]
    exact k.mono lv (lv + 1) (by omega)
end
section
variable {X : Cx} {ct : Ct} {cl : Caller} {sg : Sig} {W : WX} {lv : Nat} {sp : Bool} {y y' : Dy} {c : C} {σ : L2.St} {H : Hp}
theorem l_scope {ss : List Stmt} {is : List IS} (h : PSs X ss (tL ct cl sg W (lv + 1) true is)) : PSs X ss (tL ct cl sg W lv sp [.scope is]) :=
  h.conseq fun D σ H ⟨y, c, s, h⟩ => by
    simp only [exL, exS] at h
    rw [PostF.then] at h
    refine ⟨y, c, s.up, ?_⟩
    have h1 := s.pos
    cases eo : exL cl sg (lv + 1) true is c with
    | stuck => rw [eo] at h; exact h.elim
    | nx c' =>
      rw [eo] at h
      have h : NK lv sp y D.nx (clampC lv c') := h
      exact fun y' σ' H' x s' => h _ σ' H' (x.fold s'.g) (s'.fold h1)
    | rt f d c' =>
      rw [eo] at h
      have h : RK lv sp y D.rt (f.clamp lv) d (clampC lv c') := h
      exact fun y' σ' v H' x s' r => h _ σ' v H' (x.fold s'.g) (s'.fold h1) (Rp.mono (Pre.refl _) (regm_fold h1 s'.g) _ _ r)
    | exc e c' =>
      rw [eo] at h
      have h : XS ct W lv sp y { e with fl := e.fl.clamp lv } (clampC lv c') := h
      exact fun y' σ' H' cv d x s' r => h _ σ' H' cv d (x.fold s'.g) (s'.fold h1) (by
        obtain ⟨C0, fld, dx, v, b1, b2, b3, b4, b5⟩ := r
        exact ⟨C0, fld, dx, v, b1, b2, b3, b4, Rp.mono (Pre.refl _) (regm_fold h1 s'.g) _ _ b5⟩)
end

/-! ### every statement -/
structure DefEnv (X : Cx) (us : List Str) (a : Ann) (ct : Ct) (cl : Caller) (sg : Sig) (k : Nat) (W : WX) (sc : Scope) : Prop where
  e : EnvOk X us a ct cl sg k
  eq : X.env.scope = sc
  kind : sc.kind = .function
  tg : TgEnv X sc a.N
  pass : PassesOwn (model X.prog X.w) X.A X.env X.xe
  tk : Takes X W
  spoil : Gl X "_law_spoilt" → ∀ (lv : Nat) (x : Expr) (i : IE) (p pos pos2 : Pos), isStar x = false → PE X x (tE ct cl sg W lv i) → PS X (.Expr (.Call (.Name "_law_spoilt" p) [x] [] pos) pos2) (tS ct cl sg W lv true (.spoil i))
section
variable {us : List Str} {a : Ann} {ct : Ct} {cl : Caller} {sg : Sig} {k : Nat} {X : Cx} {W : WX} {sc : Scope} (E : DefEnv X us a ct cl sg k W sc)
include E
theorem d_ser (lv n : Nat) (e : Expr) : Ser X ct cl sg W lv e (cE us a n sc e) := good n X W lv sc e E.e E.eq E.tk
theorem d_I (lv n : Nat) (tg : Expr) (tup : Bool) (e : Expr) (ht : tup = true → ∃ es j q, tg = .Tuple es j q) : PI X tg e (tI ct cl sg W lv (cI us a n sc tup e)) := g_I E.e E.eq E.tk (fun m _ => good m) tg tup e ht
theorem st_name (lv n : Nat) (sp own : Bool) (x : Str) (v : Expr) (px pos : Pos) (i : Nat) (hs : isSto sc x = true) (hi : slotOf a.N x = some i) : PS X (.Assign [.Name x px] v pos) (tS ct cl sg W lv sp (.asg i own (cE us a n sc v))) := by
  obtain ⟨l1, l2⟩ := E.tg.sto x hs
  have hN : X.N[i]? = some x := by rw [E.e.n]; exact slotOf_get hi
  have nd : X.N.Nodup := by rw [E.e.n]; exact E.e.nd
  have plain : swapsWith v (some (.Name x px)) pos.line X.env = pure false → PS X (.Assign [.Name x px] v pos) (tS ct cl sg W lv sp (.asg i own (cE us a n sc v))) := fun h =>
    s_name' (ps_set nd hN l1 (d_ser E lv n v).pe h l2)
  cases v <;> first | exact plain rfl | skip
  · -- a list comprehension
    rename_i e gs bs q
    have hk : X.env.scope.kind = .function := by rw [E.eq]; exact E.kind
    have hb : X.env.blockKind = .function := by unfold Env.blockKind; rw [hk]; rfl
    have sw : ∃ b : Bool, swapsWith (.ListComp e gs bs q) (some (.Name x px)) pos.line X.env = pure b ∧ (b = true → X.env.scope.names.lookup x = some .local) := by
      refine ⟨X.env.blockKind == .function && X.env.kindOf x == some .local && px.line == (Expr.ListComp e gs bs q).pos.line && !(bs.names.any fun (n, k) => n == x && (k == .local || k == .cell)), rfl, fun h => ?_⟩
      simp only [Bool.and_eq_true, beq_iff_eq] at h
      exact h.1.1.2
    obtain ⟨b, hsw, hl⟩ := sw
    cases b with
    | false => exact plain hsw
    | true =>
      cases n with
      | zero =>
        simp only [cE]
        exact ⟨fun pins s σ H D I ⟨y, c, sr, h⟩ => by simp only [exS, evE] at h; exact h.elim⟩
      | succ n =>
        have nv : cE us a (n + 1) sc (.ListComp e gs bs q) = .never → PS X (.Assign [.Name x px] (.ListComp e gs bs q) pos) (tS ct cl sg W lv sp (.asg i own (cE us a (n + 1) sc (.ListComp e gs bs q)))) := fun h => by
          rw [h]
          exact ⟨fun pins s σ H D I ⟨y, c, sr, h⟩ => by simp only [exS, evE] at h; exact h.elim⟩
        match gs, hsw, nv with
        | [⟨tg, it, ifs, ac⟩], hsw, nv =>
          by_cases hac : ac = 0
          case neg => exact nv (by simp [cE, hac])
          subst hac
          have e1 : cE us a (n + 1) sc (.ListComp e [⟨tg, it, ifs, 0⟩] bs q) = (match tgOf bs a.N tg with
              | some (ts, one) => if blkC a.N sc bs (ownOf a.N ts) && decide (ifs.length ≤ 1) && !isSet it then .lc (cE us a n (relS bs sc) e) ts one (cI us a n sc (!one) it) (ifs.map (cE us a n (relS bs sc))) else .never
              | none => .never) := by
            simp only [cE]
            all_goals (cases tgOf bs a.N tg <;> rfl)
          cases ht : tgOf bs a.N tg with
          | none => exact nv (by rw [e1, ht])
          | some p =>
            obtain ⟨ts, one⟩ := p
            by_cases hc : (blkC a.N sc bs (ownOf a.N ts) && decide (ifs.length ≤ 1) && !isSet it) = true
            case neg => exact nv (by rw [e1, ht]; exact if_neg hc)
            have e2 : cE us a (n + 1) sc (.ListComp e [⟨tg, it, ifs, 0⟩] bs q) = .lc (cE us a n (relS bs sc) e) ts one (cI us a n sc (!one) it) (ifs.map (cE us a n (relS bs sc))) := by rw [e1, ht]; exact if_pos hc
            rw [e2]
            exact s_name' (s_setLc (lc_ok E.e E.eq E.tk (fun m _ => good m) ht hc) hN (hl rfl) hsw)
        | [], _, nv => exact nv (by simp only [cE])
        | _ :: _ :: _, _, nv => exact nv (by simp only [cE])
  all_goals
    cases n <;> exact ⟨fun pins s σ H D I ⟨y, c, sr, h⟩ => by simp only [cE, exS, evE] at h; exact h.elim⟩
theorem d_g (f : Fl) {lv : Nat} {tg : Expr} {ts : List Nat} {one : Bool} (h : tgOf sc a.N tg = some (ts, one)) : PG X tg (gT lv f ts one) := g_tg E.e.calm E.tg h
theorem d_F (lv n : Nat) (es : List Expr) (h : es.any isStar = false) : PA X es (tAf ct cl sg W lv (es.map (cE us a n sc))) := a_mapF (fun e => (d_ser E lv n e).pe) h
theorem locN_of {x : Str} (h : locN sc x = true) : X.env.scope.names.lookup x = some .local := by
  rw [E.eq]
  unfold locN at h
  split at h
  · assumption
  · cases h
theorem tgN_of {x : Str} {p : Pos} {i : Nat} (h : tgN sc a.N (.Name x p) = some i) : X.N[i]? = some x := by
  simp only [tgN] at h
  split at h
  · rw [E.e.n]; exact slotOf_get h
  · cases h
theorem st_par (lv n : Nat) (sp : Bool) (tes ves : List Expr) (k1 k2 : Nat) (p1 p2 pos : Pos) (ts : List Nat) (ht : tes.mapM (tgN sc a.N) = some ts) (hv : ves.any isStar = false) (hp : parOk sc a.N tes ves = true) :
    PS X (.Assign [.Tuple tes k1 p1] (.Tuple ves k2 p2) pos) (tS ct cl sg W lv sp (.par ts (ves.map (cE us a n sc)))) := by
  have hk : X.env.scope.kind = .function := by rw [E.eq]; exact E.kind
  have nd : X.N.Nodup := by rw [E.e.n]; exact E.e.nd
  have ne : ∀ {i j : Nat} {x z : Str}, X.N[i]? = some x → X.N[j]? = some z → x ≠ z → i ≠ j := fun {i j x z} h1 h2 h3 e => by
    subst e
    rw [h1] at h2
    exact h3 (Option.some.inj h2)
  have hF := d_F E lv n ves hv
  unfold parOk at hp
  split at hp
  · rename_i hsw
    refine s_parT (fun f => d_g E f (one := false) (by simp only [tgOf, ht]; rfl)) hF ?_ (swap_eq hk E.eq hsw)
    have hl : tes.length ≤ 9 := by simpa using hp
    have : ts.length = tes.length := by
      clear hp hsw hF hv hl
      induction tes generalizing ts with
      | nil => simp only [List.mapM_nil, Option.pure_def, Option.some.injEq] at ht; subst ht; rfl
      | cons e es ih =>
        rw [List.mapM_cons] at ht
        cases e1 : tgN sc a.N e with
        | none => rw [e1] at ht; simp at ht
        | some i =>
          cases e2 : es.mapM (tgN sc a.N) with
          | none => rw [e1, e2] at ht; simp at ht
          | some is =>
            rw [e1, e2] at ht
            simp at ht
            subst ht
            simp [ih _ e2]
    omega
  · rename_i ns hsw
    have two : ∀ {e1 e2 : Expr} {ts : List Nat}, [e1, e2].mapM (tgN sc a.N) = some ts → ∃ i j, tgN sc a.N e1 = some i ∧ tgN sc a.N e2 = some j ∧ ts = [i, j] := fun {e1 e2 ts} h => by
      cases h1 : tgN sc a.N e1 with
      | none => simp [h1] at h
      | some i =>
        cases h2 : tgN sc a.N e2 with
        | none => simp [h1, h2] at h
        | some j => simp [h1, h2] at h; exact ⟨i, j, rfl, rfl, h.symm⟩
    have three : ∀ {e1 e2 e3 : Expr} {ts : List Nat}, [e1, e2, e3].mapM (tgN sc a.N) = some ts → ∃ i j l, tgN sc a.N e1 = some i ∧ tgN sc a.N e2 = some j ∧ tgN sc a.N e3 = some l ∧ ts = [i, j, l] := fun {e1 e2 e3 ts} h => by
      cases h1 : tgN sc a.N e1 with
      | none => simp [h1] at h
      | some i =>
        cases h2 : tgN sc a.N e2 with
        | none => simp [h1, h2] at h
        | some j =>
          cases h3 : tgN sc a.N e3 with
          | none => simp [h1, h2, h3] at h
          | some l => simp [h1, h2, h3] at h; exact ⟨i, j, l, rfl, rfl, rfl, h.symm⟩
    simp only [Bool.and_eq_true] at hp
    obtain ⟨hp, hl⟩ := hp
    split at hp
    · rename_i x px z pz
      simp only [Bool.and_eq_true, decide_eq_true_eq, Bool.not_eq_true', decide_eq_false_iff_not] at hp
      obtain ⟨⟨⟨rfl, l1⟩, l2⟩, l3⟩ := hp
      obtain ⟨i, j, h1, h2, rfl⟩ := two ht
      have q1 := tgN_of E h1
      have q2 := tgN_of E h2
      match ves, hl, hF, hsw with
      | [v, w], _, hF, hsw => exact s_par2 E.e.calm nd q1 q2 (ne q1 q2 l3) (locN_of E l1) (locN_of E l2) hF (swap_eq hk E.eq hsw)
    · rename_i x px z pz u pu
      simp only [Bool.and_eq_true, decide_eq_true_eq, Bool.not_eq_true', decide_eq_false_iff_not] at hp
      obtain ⟨⟨⟨⟨⟨⟨rfl, l1⟩, l2⟩, l3⟩, l4⟩, l5⟩, l6⟩ := hp
      obtain ⟨i, j, l, h1, h2, h3, rfl⟩ := three ht
      have q1 := tgN_of E h1
      have q2 := tgN_of E h2
      have q3 := tgN_of E h3
      match ves, hl, hF, hsw with
      | [v, w, r], _, hF, hsw => exact s_par3 E.e.calm nd q1 q2 q3 (ne q1 q2 l4) (ne q1 q3 l5) (ne q2 q3 l6) (locN_of E l1) (locN_of E l2) (locN_of E l3) hF (swap_eq hk E.eq hsw)
    · cases hp
  · cases hp
theorem st_parO (lv n : Nat) (sp : Bool) (tes ves : List Expr) (k1 k2 : Nat) (p1 p2 pos : Pos) (ts : List Nat) (ht : tes.mapM (tgN sc a.N) = some ts) (hv : ves.any isStar = false) (hp : parOk sc a.N tes ves = true) (hsO : swO sc tes ves = true) (hlen : tes.length = ves.length) :
    PS X (.Assign [.Tuple tes k1 p1] (.Tuple ves k2 p2) pos) (tS ct cl sg W lv sp (.parO ts ((ownFl a.M tes).zip (ves.map (cE us a n sc))))) := by
  have hk : X.env.scope.kind = .function := by rw [E.eq]; exact E.kind
  have nd : X.N.Nodup := by rw [E.e.n]; exact E.e.nd
  have ne : ∀ {i j : Nat} {x z : Str}, X.N[i]? = some x → X.N[j]? = some z → x ≠ z → i ≠ j := fun {i j x z} h1 h2 h3 e => by
    subst e
    rw [h1] at h2
    exact h3 (Option.some.inj h2)
  have hF : PA X ves (tAn ct cl sg W lv ((ownFl a.M tes).zip (ves.map (cE us a n sc)))) := a_mapN (fun e => (d_ser E lv n e).pe) hv (by unfold ownFl; rw [List.length_map]; exact hlen)
  unfold parOk at hp
  split at hp
  · rename_i hsw
    unfold swO at hsO
    rw [hsw] at hsO
    cases hsO
  · rename_i ns hsw
    have two : ∀ {e1 e2 : Expr} {ts : List Nat}, [e1, e2].mapM (tgN sc a.N) = some ts → ∃ i j, tgN sc a.N e1 = some i ∧ tgN sc a.N e2 = some j ∧ ts = [i, j] := fun {e1 e2 ts} h => by
      cases h1 : tgN sc a.N e1 with
      | none => simp [h1] at h
      | some i =>
        cases h2 : tgN sc a.N e2 with
        | none => simp [h1, h2] at h
        | some j => simp [h1, h2] at h; exact ⟨i, j, rfl, rfl, h.symm⟩
    have three : ∀ {e1 e2 e3 : Expr} {ts : List Nat}, [e1, e2, e3].mapM (tgN sc a.N) = some ts → ∃ i j l, tgN sc a.N e1 = some i ∧ tgN sc a.N e2 = some j ∧ tgN sc a.N e3 = some l ∧ ts = [i, j, l] := fun {e1 e2 e3 ts} h => by
      cases h1 : tgN sc a.N e1 with
      | none => simp [h1] at h
      | some i =>
        cases h2 : tgN sc a.N e2 with
        | none => simp [h1, h2] at h
        | some j =>
          cases h3 : tgN sc a.N e3 with
          | none => simp [h1, h2, h3] at h
          | some l => simp [h1, h2, h3] at h; exact ⟨i, j, l, rfl, rfl, rfl, h.symm⟩
    simp only [Bool.and_eq_true] at hp
    obtain ⟨hp, hl⟩ := hp
    split at hp
    · rename_i x px z pz
      simp only [Bool.and_eq_true, decide_eq_true_eq, Bool.not_eq_true', decide_eq_false_iff_not] at hp
      obtain ⟨⟨⟨rfl, l1⟩, l2⟩, l3⟩ := hp
      obtain ⟨i, j, h1, h2, rfl⟩ := two ht
      have q1 := tgN_of E h1
      have q2 := tgN_of E h2
      match ves, hl, hF, hsw with
      | [v, w], _, hF, hsw => exact s_parO2 E.e.calm nd q1 q2 (ne q1 q2 l3) (locN_of E l1) (locN_of E l2) hF (swap_eq hk E.eq hsw)
    · rename_i x px z pz u pu
      simp only [Bool.and_eq_true, decide_eq_true_eq, Bool.not_eq_true', decide_eq_false_iff_not] at hp
      obtain ⟨⟨⟨⟨⟨⟨rfl, l1⟩, l2⟩, l3⟩, l4⟩, l5⟩, l6⟩ := hp
      obtain ⟨i, j, l, h1, h2, h3, rfl⟩ := three ht
      have q1 := tgN_of E h1
      have q2 := tgN_of E h2
      have q3 := tgN_of E h3
      match ves, hl, hF, hsw with
      | [v, w, r], _, hF, hsw => exact s_parO3 E.e.calm nd q1 q2 q3 (ne q1 q2 l4) (ne q1 q3 l5) (ne q2 q3 l6) (locN_of E l1) (locN_of E l2) (locN_of E l3) hF (swap_eq hk E.eq hsw)
    · cases hp
  · cases hp
theorem st_all : ∀ (n lv : Nat) (sp : Bool), (∀ st, PS X st (tS ct cl sg W lv sp (cS us a n sc st))) ∧ ∀ ss, PSs X ss (tL ct cl sg W lv sp (cL us a n sc ss))
  | 0, lv, sp => ⟨fun st => by simp only [cS]; exact s_never, fun ss => by simp only [cL]; exact l_never⟩
  | n + 1, lv, sp => by
    have ihS : ∀ lv sp st, PS X st (tS ct cl sg W lv sp (cS us a n sc st)) := fun lv sp => (st_all n lv sp).1
    have ihL : ∀ lv sp ss, PSs X ss (tL ct cl sg W lv sp (cL us a n sc ss)) := fun lv sp => (st_all n lv sp).2
    have ser : ∀ lv e, Ser X ct cl sg W lv e (cE us a n sc e) := fun lv e => d_ser E lv n e
    refine ⟨fun st => ?_, fun ss => ?_⟩
    · cases st with
      | Expr e p =>
        simp only [cS]
        split
        · rename_i z hz
          cases e <;> first | (simp [strOf] at hz; done) | skip
          rename_i c j q
          cases c <;> first | (simp [strOf] at hz; done) | exact s_doc
        · split
          · rename_i x hx
            unfold spOf at hx
            split at hx
            · rename_i f q x' q2
              split at hx
              · rename_i hf
                cases hx
                obtain ⟨rfl, h2, h3⟩ := hf
                cases sp with
                | true => exact E.spoil (gl_of E.eq h2) lv _ _ _ _ _ h3 (ser lv _).pe
                | false => exact ⟨fun pins s σ H D I ⟨y, c, sr, h⟩ => by simp only [exS] at h; exact h.elim⟩
              · cases hx
            · cases hx
          · split
            · exact s_never
            · rename_i hcmp
              refine s_expr (ser lv e).pe ?_
              cases e <;> first | rfl | (simp [isComp] at hcmp)
      | Assign tgs v p =>
        match tgs with
        | [tg] =>
          cases tg with
          | Name x q =>
            simp only [cS]
            split
            · rename_i hs
              split
              · rename_i i hi
                exact st_name E lv n sp _ x v q p i hs hi
              · exact s_never
            · exact s_never
          | Tuple es k q =>
            simp only [cS]
            split
            · rename_i ts one ves k2 p2 ht
              split
              · exact s_never
              · rename_i hc
                simp only [Bool.or_eq_true, Bool.not_eq_true', not_or, Bool.not_eq_false, Bool.not_eq_true] at hc
                simp only [tgOf, Option.map_eq_some_iff, Prod.mk.injEq] at ht
                obtain ⟨is, hi, rfl, rfl⟩ := ht
                split
                · rename_i hO
                  simp only [Bool.and_eq_true] at hO
                  refine st_parO E lv n sp es ves k k2 q p2 p _ hi hc.1 hc.2 hO.1 ?_
                  have h9 := hc.2
                  have h8 := hO.1
                  unfold swO at h8
                  unfold parOk at h9
                  split at h8
                  · rename_i nms hsw
                    have hsw : swapN sc es ves = some (some nms) := hsw
                    simp only [elts, hsw, Bool.and_eq_true, beq_iff_eq] at h9
                    exact h9.2.symm
                  · cases h8
                · exact st_par E lv n sp es ves k k2 q p2 p _ hi hc.1 hc.2
            · rename_i v _ _ ts one ht hnt
              have e1 : one = false := by
                simp only [tgOf, Option.map_eq_some_iff, Prod.mk.injEq] at ht
                obtain ⟨is, hi, rfl, rfl⟩ := ht
                rfl
              subst e1
              refine s_asgT (ser lv v).pe (fun f => d_g E f ht) ?_ ?_ rfl
              · cases v <;> rfl
              · cases v <;> first | rfl | exact absurd rfl (hnt _ _ _)
            · exact s_never
          | Subscript o ix q =>
            cases o with
            | Name x q2 =>
              simp only [cS]
              split
              · rename_i hc
                simp only [Bool.and_eq_true, decide_eq_true_eq, Bool.not_eq_true'] at hc
                obtain ⟨⟨⟨h1, h2⟩, h3⟩, h4⟩ := hc
                split
                · rename_i i hi
                  obtain ⟨v1, d1, d2⟩ := vis_of E.eq h2
                  refine s_setIx (by rw [E.e.n]; exact slotOf_get hi) v1 d1 d2 (ser lv v).pe (ser lv ix).pe (fun w => ?_) ?_ ?_
                  · cases ix <;> first | rfl | (simp [isSlc] at h4)
                  · cases v <;> rfl
                  · cases v <;> rfl
                · exact s_never
              · exact s_never
            | _ => simp only [cS]; exact s_never
          | _ => simp only [cS]; exact s_never
        | [] => simp only [cS]; exact s_never
        | _ :: _ :: _ => simp only [cS]; exact s_never
      | Return o p =>
        cases o with
        | none => simp only [cS]; exact s_retN
        | some e => simp only [cS]; exact s_ret (ser lv e).pe
      | If t b o p => simp only [cS]; exact s_if (ser lv t).pt (ihL lv sp b) (ihL lv sp o)
      | For tg it b o p =>
        cases o with
        | nil =>
          simp only [cS]
          split
          · rename_i ts one ht
            split
            · exact s_never
            · rename_i hset
              refine s_for E.pass E.e.calm (d_I E lv n tg (!one) it (tg_tup ht)) (fun f => d_g E f ht) (ihL lv false b) (fun x => ?_)
              cases it <;> first | rfl | (simp [isSet] at hset)
          · exact s_never
        | cons _ _ => simp only [cS]; exact s_never
      | While t b o p =>
        cases o with
        | nil => simp only [cS]; exact s_while E.pass (ser lv t).pt (ihL lv false b)
        | cons _ _ => simp only [cS]; exact s_never
      | Pass p => simp only [cS]; exact s_pass
      | _ => simp only [cS]; exact s_never
    · cases ss with
      | nil => simp only [cL]; exact l_nil
      | cons s r =>
        simp only [cL]
        split
        · exact l_scope (l_cons (ihS _ _ s) (ihL _ _ r))
        · exact l_cons (ihS _ _ s) (ihL _ _ r)
end
end Sd

/-! Sd23: defs. -/
namespace Sd
open PySem PySem.Spec PyProof.Rows L2

/-! ### the state at the entry -/
open Classical in
/-- all but the streams -/
noncomputable def offH (sx : List (Addr × Addr)) (H : Hp) : Hp := fun a => if NotStr sx a then H a else none
theorem offH_some {sx : List (Addr × Addr)} {H : Hp} {a : Addr} {o : HO} : offH sx H a = some o ↔ NotStr sx a ∧ H a = some o := by
  unfold offH
  split
  · rename_i h; exact ⟨fun z => ⟨h, z⟩, fun z => z.2⟩
  · rename_i h; exact ⟨fun z => (by cases z), fun z => absurd z.1 h⟩
theorem offH_str {sx : List (Addr × Addr)} {H : Hp} {q : Addr × Addr} (h : q ∈ sx) : offH sx H q.1 = none ∧ offH sx H q.2 = none := by
  refine ⟨?_, ?_⟩
  · cases e : offH sx H q.1 with
    | none => rfl
    | some o => exact absurd rfl ((offH_some.mp e).1 q h).1
  · cases e : offH sx H q.2 with
    | none => rfl
    | some o => exact absurd rfl ((offH_some.mp e).1 q h).2
theorem nd_apart : ∀ {l : List (Addr × Addr)}, (l.flatMap fun p => [p.1, p.2]).Nodup → ∀ {p q : Addr × Addr}, p ∈ l → q ∈ l → (p.1 = q.1 ∨ p.1 = q.2 ∨ p.2 = q.1 ∨ p.2 = q.2) → p = q
  | [], _, _, _, h, _, _ => by simp at h
  | r :: l, nd, p, q, hp, hq, e => by
    have nd' : ((r.1 ≠ r.2 ∧ r.1 ∉ l.flatMap fun p => [p.1, p.2]) ∧ r.2 ∉ l.flatMap fun p => [p.1, p.2]) ∧ (l.flatMap fun p => [p.1, p.2]).Nodup := by
      simp only [List.flatMap_cons, List.cons_append, List.nil_append, List.nodup_cons, List.mem_cons, not_or] at nd
      exact ⟨⟨nd.1, nd.2.1⟩, nd.2.2⟩
    obtain ⟨⟨⟨n1, n2⟩, n3⟩, n4⟩ := nd'
    have inn : ∀ {z : Addr × Addr}, z ∈ l → z.1 ∈ (l.flatMap fun p => [p.1, p.2]) ∧ z.2 ∈ (l.flatMap fun p => [p.1, p.2]) := fun {z} hz => ⟨List.mem_flatMap.mpr ⟨z, hz, by simp⟩, List.mem_flatMap.mpr ⟨z, hz, by simp⟩⟩
    rcases List.mem_cons.mp hp with rfl | hp <;> rcases List.mem_cons.mp hq with rfl | hq
    · rfl
    · obtain ⟨i1, i2⟩ := inn hq
      rcases e with e | e | e | e
      · exact absurd (e ▸ i1) n2
      · exact absurd (e ▸ i2) n2
      · exact absurd (e ▸ i1) n3
      · exact absurd (e ▸ i2) n3
    · obtain ⟨i1, i2⟩ := inn (by assumption : p ∈ l)
      rcases e with e | e | e | e
      · exact absurd (e ▸ i1) n2
      · exact absurd (e ▸ i1) n3
      · exact absurd (e ▸ i2) n2
      · exact absurd (e ▸ i2) n3
    · exact nd_apart n4 hp hq e
theorem startR_get {fd : Fd} {ds : List D} {i : Nat} {sl : Slot} (h : (startR fd ds)[i]? = some sl) : (∃ d, ds[i]? = some d ∧ sl = .sh (nrm d ⟨0, 0⟩) d) ∨ sl = .un := by
  unfold startR at h
  by_cases hi : i < ds.length
  · rw [List.getElem?_append_left (by simpa using hi), List.getElem?_map] at h
    cases e : ds[i]? with
    | none => rw [e] at h; cases h
    | some d => rw [e] at h; cases h; exact .inl ⟨d, rfl, rfl⟩
  · rw [List.getElem?_append_right (by simpa using hi), List.getElem?_replicate] at h
    split at h
    · cases h; exact .inr rfl
    · cases h
theorem start_get {N : List Str} {vs : List V} {i : Nat} {v : V} (h : vs[i]? = some v) : (L2.start N vs)[i]? = some (some v) := by
  unfold L2.start
  have hi := (List.getElem?_eq_some_iff.mp h).1
  rw [List.getElem?_append_left (by simpa using hi), List.getElem?_map, h]; rfl
abbrev y0 (sx : List (Addr × Addr)) (A H : Hp) (Z : Hp) : Dy := ⟨Z, H, fun _ => A, sx⟩
theorem sr_start {fd : Fd} {sx : List (Addr × Addr)} {s : List Stm} {ds : List D} {vs : List V} {A H : Hp} (h1 : Sub A H) (h2 : OffS sx A) (h3 : StrO sx s H) (h4 : Rps sx A ds vs) (hl : ds.length ≤ fd.N.length) :
    SR (y0 sx A H (offH sx H)) 1 ⟨startR fd ds, s⟩ (L2.start fd.N vs) H := by
  have hreg : regm (fun _ => A) 1 ⟨0, 0⟩ = A := by
    funext a
    cases e : A a with
    | none => exact Sub.none (regm_sub (G := fun _ => A) (lv := 1)) e
    | some o => exact regm_in (G := fun _ => A) (lv := 1) e (.inl rfl) (by show A a ≠ none; rw [e]; exact fun z => by cases z)
  have noow : ∀ {i : Nat} {p : Addr}, ¬ OwnAt ⟨startR fd ds, s⟩ (L2.start fd.N vs) i p := fun {i p} ⟨⟨f, d, h⟩, _⟩ => by
    rcases startR_get h with ⟨_, _, e⟩ | e <;> cases e
  refine ⟨Nat.le_refl _, fun a h => ?_, ⟨fun _ _ _ => Sub.refl _, fun _ _ => rfl⟩, h1, fun a o h => (offH_some.mp h).2, fun a h => h, fun a o h => .inl h, fun i sl hi => ?_, fun i j p h => absurd h noow, ⟨h3.len, h3.at_, fun q hq => ?_, h3.nd⟩, ?_⟩
  · obtain ⟨o, ho⟩ := Option.ne_none_iff_exists'.mp h
    show H a ≠ none
    rw [(offH_some.mp ho).2]; exact fun z => by cases z
  · rcases startR_get hi with ⟨d, hd, rfl⟩ | rfl
    · obtain ⟨v, hv, r⟩ := h4.get hd
      refine ⟨v, getD_some.mpr (start_get hv), ?_⟩
      have r' : Rp sx (regm (fun _ => A) 1 ⟨0, 0⟩) d v := by rw [hreg]; exact r
      exact r'.nrm
    · trivial
  · obtain ⟨a1, a2⟩ := h2 q hq
    obtain ⟨a3, a4⟩ := offH_str (H := H) hq
    exact ⟨a1, a2, a3, a4⟩
  · have := h4.length
    show (startR fd ds).length = (L2.start fd.N vs).length
    unfold startR L2.start
    simp only [List.length_append, List.length_map, List.length_replicate]
    omega
/-- the state at the end, for the caller -/
theorem aft_end {sx : List (Addr × Addr)} {A H H' : Hp} {y : Dy} {c : C} {σ : L2.St} {sp : Bool} (x : ExtS sp (y0 sx A H (offH sx H)) 1 y) (s : SR y 1 c σ H') : Aft sx c.s y.sx H H' := by
  have hz : y.Z = offH sx H := x.z
  refine ⟨x.s, ⟨s.str.len, s.str.at_, s.str.nd⟩, fun q hq hn => ?_, fun a o h n => s.prot a o (by rw [hz]; exact offH_some.mpr ⟨n, h⟩)⟩
  obtain ⟨_, _, a3, a4⟩ := s.str.off q hq
  rw [hz] at a3 a4
  have fresh : ∀ a, (a = q.1 ∨ a = q.2) → offH sx H a = none → H a = none := fun a ha hz' => by
    cases e : H a with
    | none => rfl
    | some o =>
      exfalso
      have n : NotStr sx a := fun r hr => by
        have hr' : r ∈ y.sx := by obtain ⟨t, ht⟩ := x.s; rw [ht]; exact List.mem_append_left _ hr
        refine ⟨fun z => ?_, fun z => ?_⟩
        · have : q = r := nd_apart s.str.nd hq hr' (by rcases ha with ha | ha; exact .inl (ha.symm.trans z); exact .inr (.inr (.inl (ha.symm.trans z))))
          exact hn (this ▸ hr)
        · have : q = r := nd_apart s.str.nd hq hr' (by rcases ha with ha | ha; exact .inr (.inl (ha.symm.trans z)); exact .inr (.inr (.inr (ha.symm.trans z))))
          exact hn (this ▸ hr)
      rw [offH_some.mpr ⟨n, e⟩] at hz'; cases hz'
  exact ⟨fresh _ (.inl rfl) a3, fresh _ (.inr rfl) a4⟩
theorem back_end {sx : List (Addr × Addr)} {A H H' Z : Hp} {y : Dy} {c : C} {σ : L2.St} {sp : Bool} {f : Fl} (x : ExtS sp (y0 sx A H Z) 1 y) (s : SR y 1 c σ H') : Back A f y.sx H H' (regm y.G 1 f) := by
  have g0 : y.G 0 = A := x.low 0 (by omega)
  have hb : y.B = H := x.b
  refine ⟨regm_sub.trans s.top, fun q hq => ?_, fun a o h => ?_, fun hf a o h => ?_⟩
  · obtain ⟨a1, a2, _, _⟩ := s.str.off q hq
    exact ⟨Sub.none regm_sub a1, Sub.none regm_sub a2⟩
  · rcases s.fresh a o (regm_sub _ _ h) with z | z
    · rw [g0] at z; exact .inl z
    · rw [hb] at z; exact .inr z
  · obtain ⟨h0, h1⟩ := regm_out h
    rcases h1 with h1 | ⟨h1, _⟩
    · exact .inl h1
    · have n0 : y.G 0 a = none := by
        rcases h1 with h1 | h1
        · omega
        · exact (s.g.mono 0 (f.lo - 1) (by omega)).none h1
      rcases s.fresh a o h0 with z | z
      · rw [n0] at z; cases z
      · rw [hb] at z; exact .inr z

/-! ### a def keeps its promise -/
structure FnFacts (K : PySem.W.Frag) (x : Str) (a : Ann) (ps : List Str) (params : Arguments) (body : List Stmt) (sc : Scope) (f : Addr) (fd : FuncData) : Prop where
  ex : ∃ (oc : Value) (od : Option Addr) (kV doc pm : Value) (an : Option Addr) (cdv ct : Value) (osl : Array (Option Value)),
    fd = PySem.W.fnOf x x params body sc .none kV doc pm an cdv ct ∧ K.lookup f = some ⟨oc, od, .func fd, osl⟩ ∧ PySem.W.codeIn K cdv x = true
  S : FnScope a.N ps sc
/-- what defs are called with, what stands in the module -/
structure ModEnv (P : Program) (w : World) (K : PySem.W.Frag) (mg : Str → Option Value) (base : Heap) (us : List Str) (ct : Ct) (cl : Caller) (sg : Sig) (k : Nat) : Prop where
  blt : ∀ x ∈ bnames, mg x = none
  nodbg : ("__debug__" : Str) ∉ us
  cals : ∀ x ∈ us, ∃ fa fd, mg x = some (.ref fa) ∧ PySem.W.keepIn K (.ref fa) = true ∧ PlainPs fd.params ∧ fd.defaults = .none ∧ fd.params.args.map (·.arg) = sg x ∧ (sg x).Nodup ∧ FnG P w K mg base (L2.CX P w) k fa fd (sg x) (spF ct (cl x) (sg x).length)
  spoil : ∀ (X : Cx), X.prog = P → X.w = w → X.K = K → X.mg = mg → X.base = base → RoomG k X.A → X.calm = true → ∀ (W : WX), Takes X W → Gl X "_law_spoilt" → ∀ (lv : Nat) (x : Expr) (i : IE) (p pos pos2 : Pos), isStar x = false → PE X x (tE ct cl sg W lv i) → PS X (.Expr (.Call (.Name "_law_spoilt" p) [x] [] pos) pos2) (tS ct cl sg W lv true (.spoil i))
theorem fn_ok {P : Program} {w : World} {K : PySem.W.Frag} {mg : Str → Option Value} {base : Heap} {us : List Str} {ct : Ct} {cl : Caller} {sg : Sig} {k : Nat} {x : Str} {a : Ann} {ps : List Str} {params : Arguments} {body : List Stmt} {sc : Scope} {f : Addr} {fd : FuncData}
    {cf : List D → List Stm → Option (Fl × D × List Stm ⊕ Exn × List Stm)} (M : ModEnv P w K mg base us ct cl sg k) (F : FnFacts K x a ps params body sc f fd)
    (hcf : ∀ as s, cf as s = if as.length = ps.length then endW (exL cl sg 1 false (cL us a 200 sc body) ⟨startR ⟨ps, a.N, cL us a 200 sc body⟩ as, s⟩) else none) :
    FnG P w K mg base (L2.CX P w) (k + 1) f fd ps (spF ct cf ps.length) := by
  obtain ⟨oc, od, kV, doc, pm, an, cdv, ctv, osl, rfl, lk, hcd⟩ := F.ex
  refine fn_ofG lk hcd F.S (fun vs H Q E h => h.len) fun A outer s H vs Q E hr hsp => ?_
  have tk : Takes (cxOf (L2.CX P w) P w K mg base a.N x sc f cdv A outer s H E) (fun cls d _ H => E cls d H) := takes_of rfl rfl rfl rfl
  have env : DefEnv (cxOf (L2.CX P w) P w K mg base a.N x sc f cdv A outer s H E) us a ct cl sg k (fun cls d _ H => E cls d H) sc :=
    ⟨⟨rfl, F.S.nd, rfl, hr, M.blt, fun x hx => ⟨M.cals x hx⟩, M.nodbg⟩, rfl, F.S.kind, ⟨rfl, F.S.nd, fun z hz => ⟨isSto_loc hz, .inl rfl⟩⟩, passes_of rfl, tk, M.spoil _ rfl rfl rfl rfl rfl hr rfl _ tk⟩
  refine ⟨_, (st_all env 200 1 false).2 body, ?_⟩
  obtain ⟨sx, st, ds, A0, h1, h2, h3, h4, h5, h6⟩ := hsp
  have hpl : ps.length ≤ a.N.length := by have := congrArg List.length F.S.pre; rw [List.length_take] at this; omega
  rw [hcf, if_pos h1] at h6
  refine ⟨_, _, sr_start (fd := ⟨ps, a.N, cL us a 200 sc body⟩) h2 h3 h4 h5 (by show ds.length ≤ a.N.length; omega), ?_⟩
  cases eo : exL cl sg 1 false (cL us a 200 sc body) ⟨startR ⟨ps, a.N, cL us a 200 sc body⟩ ds, st⟩ with
  | stuck => rw [eo] at h6; exact h6.elim
  | nx c' =>
    rw [eo] at h6
    have h6 : ∀ v H' sx' B, Aft sx c'.s sx' H H' → Back A0 Fl.top sx' H H' B → Rp sx' B .non v → Q v H' := h6
    exact fun y' σ' H' x s' => h6 .non H' _ _ (aft_end x s') (back_end x s') (by simp [Rp])
  | rt fl d c' =>
    rw [eo] at h6
    have h6 : ∀ v H' sx' B, Aft sx c'.s sx' H H' → Back A0 fl sx' H H' B → Rp sx' B d v → Q v H' := h6
    exact fun y' σ' v H' x s' r => h6 v H' _ _ (aft_end x s') (back_end x s') r
  | exc e c' =>
    rw [eo] at h6
    have h6 : ∀ cv d H' sx' B, Aft sx c'.s sx' H H' → Back A0 e.fl sx' H H' B → ExB ct sx' B H' e cv d → E cv d H' := h6
    exact fun y' σ' H' cv d x s' r => h6 cv d H' _ _ (aft_end x s') (back_end x s') r
/-- nothing is promised -/
theorem fn_none {P : Program} {w : World} {K : PySem.W.Frag} {mg : Str → Option Value} {base : Heap} {ct : Ct} {k n : Nat} {f : Addr} {fd : FuncData} {ps : List Str} {CX : CXT} : FnG P w K mg base CX k f fd ps (spF ct (fun _ _ => none) n) :=
  ⟨fun vs H Q E ⟨sx, s, ds, A, h1, h2, h3, h4, h5, h6⟩ => h6.elim, fun _ _ _ _ ⟨sx, st, ds, A0, h1, h2, h3, h4, h5, h6⟩ => h6.elim⟩
end Sd

/-! Sd24: the next draw. -/
namespace Sd
open PySem PySem.Spec PyProof.Rows L2
/-- the draw's rows, wherever they stand -/
abbrev drawB (p1 p2 p3 p4 p5 p6 p7 p8 p9 p10 p11 p12 p13 p14 p15 p16 p17 p18 p19 p20 p21 p22 p23 p24 p25 p26 p27 p28 p29 p30 p31 p32 p33 p34 p35 p36 p37 p38 p39 p40 p41 p42 p43 p44 p45 p46 p47 p48 p49 p50 p51 p52 p53 p54 p55 p56 p57 p58 p59 p60 p61 p62 p63 p64 p65 p66 p67 p68 p69 p70 p71 p72 p73 p74 p75 p76 p77 p78 p79 p80 p81 p82 p83 p84 p85 p86 p87 p88 p89 p90 p91 p92 p93 p94 p95 p96 p97 p98 p99 p100 p101 p102 p103 p104 p105 p106 p107 p108 p109 p110 p111 p112 p113 p114 p115 p116 p117 p118 p119 p120 p121 p122 p123 p124 p125 : Pos) (k1 k2 k3 k4 k5 k6 k7 k8 k9 k10 k11 k12 k13 k14 k15 k16 k17 k18 k19 k20 k21 k22 k23 k24 k25 k26 k27 k28 k29 k30 k31 k32 k33 k34 : Nat) : List Stmt := [
  .Assign [(.Subscript (.Name "stream" p1) (.Constant (.int 2) k1 p2) p3)] (.BinOp (.Subscript (.Name "stream" p4) (.Constant (.int 2) k2 p5) p6) .Add (.Constant (.int 1) k3 p7) p8) p9,
  .While (.BoolOp .And [(.Compare (.Subscript (.Name "stream" p10) (.Constant (.int 1) k4 p11) p12) [.Eq] [(.Constant (.int 0) k5 p13)] p14), (.Compare (.Subscript (.Name "stream" p15) (.Constant (.int 0) k6 p16) p17) [.NotEq] [(.List [] p18)] p19)] p20) [.Assign [(.Name "cell" p21)] (.Call (.Name "abs" p22) [(.Call (.Attribute (.Subscript (.Name "stream" p23) (.Constant (.int 0) k7 p24) p25) "pop" p26) [(.Constant (.int 0) k8 p27)] [] p28)] [] p29) p30, .Assign [(.Subscript (.Name "stream" p31) (.Constant (.int 3) k9 p32) p33)] (.BinOp (.Call (.Name "int" p34) [(.BinOp (.BinOp (.BinOp (.Subscript (.Name "stream" p35) (.Constant (.int 3) k10 p36) p37) .Mult (.Constant (.int 6151) k11 p38) p39) .Add (.Name "cell" p40) p41) .Add (.Constant (.int 7) k12 p42) p43)] [] p44) .Mod (.Constant (.int 2147483629) k13 p45) p46) p47, .Assign [(.Subscript (.Name "stream" p48) (.Constant (.int 1) k14 p49) p50)] (.IfExp (.Compare (.Name "cell" p51) [.GtE] [(.BinOp (.Constant (.int 10) k15 p52) .Pow (.Constant (.int 18) k16 p53) p54)] p55) (.Name "cell" p56) (.Constant (.int 0) k17 p57) p58) p59] [] p60,
  .If (.Compare (.Subscript (.Name "stream" p61) (.Constant (.int 1) k18 p62) p63) [.Gt] [(.Constant (.int 0) k19 p64)] p65) [.Assign [(.Name "digit" p66)] (.BinOp (.Call (.Name "int" p67) [(.Subscript (.Name "stream" p68) (.Constant (.int 1) k20 p69) p70)] [] p71) .Mod (.Name "many" p72) p73) p74, .Assign [(.Subscript (.Name "stream" p75) (.Constant (.int 1) k21 p76) p77)] (.BinOp (.Subscript (.Name "stream" p78) (.Constant (.int 1) k22 p79) p80) .FloorDiv (.Name "many" p81) p82) p83, .Return (some (.Name "digit" p84)) p85] [] p86,
  .Assign [(.Name "mixed" p87)] (.BinOp (.Call (.Name "int" p88) [(.BinOp (.BinOp (.BinOp (.Subscript (.Name "stream" p89) (.Constant (.int 3) k23 p90) p91) .Add (.BinOp (.Constant (.int 8191) k24 p92) .Mult (.Subscript (.Name "stream" p93) (.Constant (.int 2) k25 p94) p95) p96) p97) .Add (.Constant (.int 50021) k26 p98) p99) .Pow (.Constant (.int 5) k27 p100) p101)] [] p102) .Mod (.Constant (.int 2147483587) k28 p103) p104) p105,
  .Return (some (.BinOp (.BinOp (.Call (.Name "int" p106) [(.BinOp (.BinOp (.BinOp (.BinOp (.Name "mixed" p107) .Mult (.Constant (.int 40009) k29 p108) p109) .Add (.BinOp (.Constant (.int 20011) k30 p110) .Mult (.Subscript (.Name "stream" p111) (.Constant (.int 2) k31 p112) p113) p114) p115) .Add (.Constant (.int 31) k32 p116) p117) .Pow (.Constant (.int 3) k33 p118) p119)] [] p120) .Mod (.Constant (.int 1000000009) k34 p121) p122) .Mod (.Name "many" p123) p124)) p125]
/-- the stream at p, its cells at q; all else as it was -/
structure HS (H0 : Hp) (p q : Addr) (cs : List Int) (cur cnt mix : Int) (H : Hp) : Prop where
  hp : H p = some (.lst [.ref q, .int cur, .int cnt, .int mix])
  hq : H q = some (.lst (cs.map V.int))
  ne : p ≠ q
  keep : ∀ a o, a ≠ p → a ≠ q → H0 a = some o → H a = some o
def Ev (t : TE) (σ : L2.St) (H : Hp) (v : V) : Prop := ∀ Q : VK, Q v H → t σ H Q
section
variable {σ : L2.St} {H : Hp}
theorem ev_var {i : Nat} {v : V} (h : σ[i]? = some (some v)) : Ev (tVar i) σ H v := fun Q q => ⟨v, h, q⟩
theorem ev_c {v : V} : Ev (tC v) σ H v := fun Q q => q
theorem ev_op {r : R2} {ta tb : TE} {x y z : V} (ha : Ev ta σ H x) (hb : Ev tb σ H y) (h : ∀ Q : VK, Q z H → r x y H Q) : Ev (tOp r ta tb) σ H z := fun Q q => ha _ (hb _ (h Q q))
theorem ev_add {ta tb : TE} {i j : Int} (ha : Ev ta σ H (.int i)) (hb : Ev tb σ H (.int j)) : Ev (tOp (rI0 fun i j => .int (i + j)) ta tb) σ H (.int (i + j)) := ev_op ha hb fun Q q => ⟨i, j, rfl, rfl, q⟩
theorem ev_mul {ta tb : TE} {i j : Int} (ha : Ev ta σ H (.int i)) (hb : Ev tb σ H (.int j)) (h : CMulW i j) : Ev (tOp (rI CMulW fun i j => .int (i * j)) ta tb) σ H (.int (i * j)) := ev_op ha hb fun Q q => ⟨i, j, rfl, rfl, h, q⟩
theorem ev_mod {ta tb : TE} {i j : Int} (ha : Ev ta σ H (.int i)) (hb : Ev tb σ H (.int j)) (h : 0 < j) : Ev (tOp (rI (fun _ j => 0 < j) fun i j => .int (i % j)) ta tb) σ H (.int (i % j)) := ev_op ha hb fun Q q => ⟨i, j, rfl, rfl, h, q⟩
theorem ev_div {ta tb : TE} {i j : Int} (ha : Ev ta σ H (.int i)) (hb : Ev tb σ H (.int j)) (h : CDivW i j) : Ev (tOp (rI CDivW fun i j => .int (i / j)) ta tb) σ H (.int (i / j)) := ev_op ha hb fun Q q => ⟨i, j, rfl, rfl, h, q⟩
theorem ev_pow {ta tb : TE} {i j : Int} (ha : Ev ta σ H (.int i)) (hb : Ev tb σ H (.int j)) (h : CPow i j) : Ev (tOp (rI CPow fun i j => .int (i ^ j.toNat)) ta tb) σ H (.int (i ^ j.toNat)) := ev_op ha hb fun Q q => ⟨i, j, rfl, rfl, h, q⟩
theorem ev_ix {K : PySem.W.Frag} {ta tb : TE} {p : Addr} {xs : List V} {i : Int} {v : V} (ha : Ev ta σ H (.ref p)) (hb : Ev tb σ H (.int i)) (hp : H p = some (.lst xs)) (h : atI xs i = some v) : Ev (tOp (rIx K) ta tb) σ H v := ev_op ha hb fun Q q => .inl ⟨p, xs, i, v, rfl, rfl, .of hp, h, q⟩
theorem ev_int {ta : TE} {i : Int} (ha : Ev ta σ H (.int i)) : Ev (tCB (fun xs H Q => (∃ i, xs = [.int i] ∧ Q (.int i) H) ∨ ∃ k, xs = [.bl k] ∧ Q (.int (if k then 1 else 0)) H) (tCons ta tNil)) σ H (.int i) := fun Q q => ha _ (.inl ⟨i, rfl, q⟩)
/-- a test of two ints -/
theorem ev_gt {ta tb : TE} {i j : Int} {Q : Bool → Hp → Prop} {g : Int → Int → Bool} (ha : Ev ta σ H (.int i)) (hb : Ev tb σ H (.int j)) (q : Q (g i j) H) : tTest (tOp (rI0 fun i j => .bl (g i j)) ta tb) σ H Q := ha _ (hb _ ⟨i, j, rfl, rfl, g i j, rfl, q⟩)
end
theorem big_of {n : Nat} (h : n < 2 ^ 64) : n < BIG := Nat.lt_of_lt_of_le h (by unfold BIG; exact Nat.pow_le_pow_right (by decide) (by decide))
theorem div_of {n : Nat} (h : n < 2 ^ 64) : n < 2 ^ 9000 := Nat.lt_of_lt_of_le h (Nat.pow_le_pow_right (by decide) (by decide))
theorem mul_c {i j : Int} (h : i.natAbs < 2 ^ 64) (k : j.natAbs < 2 ^ 64) : CMulW i j := mulOk_c (by simp only [mulOk, Bool.and_eq_true, decide_eq_true_eq]; exact ⟨big_of h, big_of k⟩)
theorem div_c {i j : Int} (h : 0 < j) (k : j.natAbs < 2 ^ 64) : CDivW i j := divOk_c (by simp only [divOk, Bool.and_eq_true, decide_eq_true_eq]; exact ⟨h, div_of k⟩)
/-- a heap, seen by the evaluator's lemmas -/
abbrev yH (H : Hp) : Dy := ⟨fun _ => none, fun _ => none, fun _ => H, []⟩
theorem vw_int {H : Hp} {i : Int} : Vw (yH H) 0 H Fl.top (.int i) (.int i) := by simp [Vw, Rp]
theorem vw_ints {H : Hp} {q : Addr} {cs : List Int} (h : H q = some (.lst (cs.map V.int))) : Vw (yH H) 0 H Fl.top (.lst (cs.map D.int)) (.ref q) := ⟨q, _, rfl, h, Rps.ints cs⟩
theorem eqOks_ints : ∀ cs : List Int, eqOks 59 (cs.map D.int) = true
  | [] => rfl
  | c :: cs => by simp [eqOks, eqOk, eqOks_ints cs]
section
variable {X : Cx}
/-- what is known of the draw's context -/
structure DrEnv (X : Cx) : Prop where
  N : X.N = (["stream", "many", "cell", "digit", "mixed"] : List Str)
  sc : ∀ x ∈ (["stream", "many", "cell", "digit", "mixed"] : List Str), X.env.scope.names.lookup x = some .local
  ga : Gl X "abs"
  gi : Gl X "int"
  ma : X.mg "abs" = none
  mi : X.mg "int" = none
  calm : X.calm = true
  room : ∃ k, RoomG k X.A
  pass : PassesOwn (model X.prog X.w) X.A X.env X.xe
theorem DrEnv.v (E : DrEnv X) {i : Nat} {x : Str} {p : Pos} (h : (["stream", "many", "cell", "digit", "mixed"] : List Str)[i]? = some x) (hd : (x == ("__debug__" : Str)) = false := by decide) (hcd : (x == ("__classdict__" : Str)) = false := by decide) : PE X (.Name x p) (tVar i) :=
  pe_var (by rw [E.N]; exact h) (.inl (E.sc x (List.mem_of_getElem? h))) hd hcd
theorem DrEnv.st (E : DrEnv X) {i : Nat} {x : Str} (h : (["stream", "many", "cell", "digit", "mixed"] : List Str)[i]? = some x) : X.N.Nodup ∧ X.N[i]? = some x ∧ L2.Loc X.env.scope x ∧ X.env.scope.names.lookup x = some .local :=
  ⟨by rw [E.N]; decide, by rw [E.N]; exact h, .inl (E.sc x (List.mem_of_getElem? h)), E.sc x (List.mem_of_getElem? h)⟩
/-- stream[i] -/
theorem DrEnv.at (E : DrEnv X) {i : Int} {j : Nat} {p1 p2 p3 : Pos} : PE X (.Subscript (.Name "stream" p1) (.Constant (.int i) j p2) p3) (tOp (rIx X.K) (tVar 0) (tC (.int i))) := pe_ix ix_seq (E.v (i := 0) rfl) pe_int fun _ _ => rfl
/-- stream[i] = e -/
theorem DrEnv.put (E : DrEnv X) {e : Expr} {te : TE} {i : Int} {j : Nat} {p1 p2 p3 p4 : Pos} (he : PE X e te) (hs : swapsWithSole [.Subscript (.Name "stream" p1) (.Constant (.int i) j p2) p3] e p4.line X.env = pure false) (hw : swappedStores [.Subscript (.Name "stream" p1) (.Constant (.int i) j p2) p3] e X.env = pure none) :
    PS X (.Assign [.Subscript (.Name "stream" p1) (.Constant (.int i) j p2) p3] e p4) (tAsg te (gSub (tVar 0) (tC (.int i)) rSetL)) := ps_asg he (pg_sub (E.v (i := 0) rfl) pe_int set_list) hs hw rfl
end
/-! ### a store into the stream -/
section
variable {H0 H : Hp} {p q : Addr} {cs : List Int} {cur cnt mix z : Int} {σ : L2.St} {Q : L2.St → Hp → Prop}
theorem HS.set {H' : Hp} {xs : List V} (h : HS H0 p q cs cur cnt mix H) (c : Int) (cu m : Int) (e : H' = upd H p (.lst [.ref q, .int cu, .int c, .int m])) : HS H0 p q cs cu c m H' := by
  subst e
  refine ⟨upd_same, by rw [upd_ne (Ne.symm h.ne)]; exact h.hq, h.ne, fun a o h1 h2 h3 => ?_⟩
  rw [upd_ne h1]; exact h.keep a o h1 h2 h3
theorem put1 (h0 : σ[0]? = some (some (.ref p))) (h : HS H0 p q cs cur cnt mix H) (k : ∀ H', HS H0 p q cs z cnt mix H' → Q σ H') : gSub (tVar 0) (tC (.int 1)) rSetL (.int z) σ H Q :=
  ⟨_, h0, p, _, 1, 1, rfl, rfl, h.hp, rfl, k _ (h.set (xs := []) cnt z mix rfl)⟩
theorem put2 (h0 : σ[0]? = some (some (.ref p))) (h : HS H0 p q cs cur cnt mix H) (k : ∀ H', HS H0 p q cs cur z mix H' → Q σ H') : gSub (tVar 0) (tC (.int 2)) rSetL (.int z) σ H Q :=
  ⟨_, h0, p, _, 2, 2, rfl, rfl, h.hp, rfl, k _ (h.set (xs := []) z cur mix rfl)⟩
theorem put3 (h0 : σ[0]? = some (some (.ref p))) (h : HS H0 p q cs cur cnt mix H) (k : ∀ H', HS H0 p q cs cur cnt z H' → Q σ H') : gSub (tVar 0) (tC (.int 3)) rSetL (.int z) σ H Q :=
  ⟨_, h0, p, _, 3, 3, rfl, rfl, h.hp, rfl, k _ (h.set (xs := []) cnt cur z rfl)⟩
theorem at1 {K : PySem.W.Frag} (h0 : σ[0]? = some (some (.ref p))) (h : HS H0 p q cs cur cnt mix H) : Ev (tOp (rIx K) (tVar 0) (tC (.int 1))) σ H (.int cur) := ev_ix (ev_var h0) ev_c h.hp rfl
theorem at2 {K : PySem.W.Frag} (h0 : σ[0]? = some (some (.ref p))) (h : HS H0 p q cs cur cnt mix H) : Ev (tOp (rIx K) (tVar 0) (tC (.int 2))) σ H (.int cnt) := ev_ix (ev_var h0) ev_c h.hp rfl
theorem at3 {K : PySem.W.Frag} (h0 : σ[0]? = some (some (.ref p))) (h : HS H0 p q cs cur cnt mix H) : Ev (tOp (rIx K) (tVar 0) (tC (.int 3))) σ H (.int mix) := ev_ix (ev_var h0) ev_c h.hp rfl
theorem at0 {K : PySem.W.Frag} (h0 : σ[0]? = some (some (.ref p))) (h : HS H0 p q cs cur cnt mix H) : Ev (tOp (rIx K) (tVar 0) (tC (.int 0))) σ H (.ref q) := ev_ix (ev_var h0) ev_c h.hp rfl
end
section
variable {H0 H : Hp} {p q : Addr} {cs : List Int} {cur cnt mix : Int}
theorem HS.alloc {l : Addr} {o : HO} (h : HS H0 p q cs cur cnt mix H) (hl : H l = none) : HS H0 p q cs cur cnt mix (upd H l o) := by
  refine ⟨by rw [upd_ne (ne_of_none h.hp hl)]; exact h.hp, by rw [upd_ne (ne_of_none h.hq hl)]; exact h.hq, h.ne, fun a u h1 h2 h3 => ?_⟩
  have z := h.keep a u h1 h2 h3
  rw [upd_ne (ne_of_none z hl)]; exact z
theorem HS.pop {x : Int} {r : List Int} (h : HS H0 p q (x :: r) cur cnt mix H) : HS H0 p q r cur cnt mix (upd H q (.lst (((x :: r).map V.int).eraseIdx 0))) := by
  refine ⟨by rw [upd_ne h.ne]; exact h.hp, upd_same, h.ne, fun a u h1 h2 h3 => ?_⟩
  rw [upd_ne h2]; exact h.keep a u h1 h2 h3
theorem drawGo_end {cs : List Int} {cur mix : Int} (h : cs = [] ∨ cur ≠ 0) : drawGo cs cur mix = (cs, cur, mix) := by
  cases cs with
  | nil => rfl
  | cons x r =>
    rcases h with h | h
    · cases h
    · simp [drawGo, h]
theorem if0 {A B : Prop} (h : B) : if false = true then A else B := by rw [if_neg Bool.false_ne_true]; exact h
theorem if1 {A B : Prop} (h : A) : if true = true then A else B := by rw [if_pos rfl]; exact h
theorem whl_lem {c : TT} {tb : TS} {D2 : Ends} {σ : L2.St} {H : Hp} (P : L2.St → Hp → Prop) (h1 : ∀ σ H, P σ H → D2.nx σ H) (h2 : (∀ σ H, P σ H → D2.nx σ H) → tWhile c tb D2 σ H) : tWhile c tb D2 σ H := h2 h1
theorem pow_c {i : Int} {n : Nat} (h : i.natAbs < 2 ^ 64) (hn : n ≤ 1000) : CPow i (n : Int) := powOk_c (by simp only [powOk, Bool.and_eq_true, decide_eq_true_eq]; exact ⟨⟨by omega, by omega⟩, h⟩)
end
section
variable {X : Cx}
theorem draw_ps (E : DrEnv X) {p1 p2 p3 p4 p5 p6 p7 p8 p9 p10 p11 p12 p13 p14 p15 p16 p17 p18 p19 p20 p21 p22 p23 p24 p25 p26 p27 p28 p29 p30 p31 p32 p33 p34 p35 p36 p37 p38 p39 p40 p41 p42 p43 p44 p45 p46 p47 p48 p49 p50 p51 p52 p53 p54 p55 p56 p57 p58 p59 p60 p61 p62 p63 p64 p65 p66 p67 p68 p69 p70 p71 p72 p73 p74 p75 p76 p77 p78 p79 p80 p81 p82 p83 p84 p85 p86 p87 p88 p89 p90 p91 p92 p93 p94 p95 p96 p97 p98 p99 p100 p101 p102 p103 p104 p105 p106 p107 p108 p109 p110 p111 p112 p113 p114 p115 p116 p117 p118 p119 p120 p121 p122 p123 p124 p125 : Pos} {k1 k2 k3 k4 k5 k6 k7 k8 k9 k10 k11 k12 k13 k14 k15 k16 k17 k18 k19 k20 k21 k22 k23 k24 k25 k26 k27 k28 k29 k30 k31 k32 k33 k34 : Nat} (hline : (p26.endLine == p28.line) = true) : ∃ t, PSs X (drawB p1 p2 p3 p4 p5 p6 p7 p8 p9 p10 p11 p12 p13 p14 p15 p16 p17 p18 p19 p20 p21 p22 p23 p24 p25 p26 p27 p28 p29 p30 p31 p32 p33 p34 p35 p36 p37 p38 p39 p40 p41 p42 p43 p44 p45 p46 p47 p48 p49 p50 p51 p52 p53 p54 p55 p56 p57 p58 p59 p60 p61 p62 p63 p64 p65 p66 p67 p68 p69 p70 p71 p72 p73 p74 p75 p76 p77 p78 p79 p80 p81 p82 p83 p84 p85 p86 p87 p88 p89 p90 p91 p92 p93 p94 p95 p96 p97 p98 p99 p100 p101 p102 p103 p104 p105 p106 p107 p108 p109 p110 p111 p112 p113 p114 p115 p116 p117 p118 p119 p120 p121 p122 p123 p124 p125 k1 k2 k3 k4 k5 k6 k7 k8 k9 k10 k11 k12 k13 k14 k15 k16 k17 k18 k19 k20 k21 k22 k23 k24 k25 k26 k27 k28 k29 k30 k31 k32 k33 k34) t ∧ ∀ (D : Ends) (H : Hp) (p q : Addr) (st : Stm) (many i : Int) (st' : Stm),
    HS H p q st.cells st.cur st.cnt st.mix H → draw st many = some (i, st') → (∀ H', HS H p q st'.cells st'.cur st'.cnt st'.mix H' → D.rt (.int i) H') → t D [some (.ref p), some (.int many), none, none, none] H := by
  obtain ⟨k, hr0⟩ := E.room
  have hr := hr0.r
  obtain ⟨nd, s2, s2', s2''⟩ := E.st (i := 2) rfl
  obtain ⟨_, s3, s3', s3''⟩ := E.st (i := 3) rfl
  obtain ⟨_, s4, s4', s4''⟩ := E.st (i := 4) rfl
  refine ⟨_, pss_cons (E.put (pe_op op_add E.at pe_int) rfl rfl) (pss_cons (ps_while E.pass (pw_and (pt_cmpR (rCmp_ok hr .eq) E.at pe_int rfl) (pw_and1 (pt_cmpR (rCmp_ok hr .ne) E.at (pe_lst pa_nil) rfl))).pt
      (pss_cons (ps_set nd s2 s2' (pe_callB call_abs E.ga E.ma boot_abs (pa_cons (pe_bm PySem.F.plainAttrs_list PySem.F.slot_list_pop PySem.F.type_list_pop mt_popAt E.at (pa_cons pe_int pa_nil) rfl rfl hline) pa_nil)) rfl (.inr s2''))
        (pss_cons (E.put (pe_op op_mod (pe_callTy call_int1 E.gi E.mi boot_int (pa_cons (pe_op op_add (pe_op op_add (pe_op op_mulW E.at pe_int) (E.v (i := 2) rfl)) pe_int) pa_nil)) pe_int) rfl rfl)
          (pss_one (E.put (pe_ifExp (pt_cmpR op_ge (E.v (i := 2) rfl) (pe_op op_pow pe_int pe_int) rfl) (E.v (i := 2) rfl) pe_int) rfl rfl)))))
    (pss_cons (ps_if (pt_cmpR op_gt E.at pe_int rfl)
        (pss_cons (ps_set nd s3 s3' (pe_op op_mod (pe_callTy call_int1 E.gi E.mi boot_int (pa_cons E.at pa_nil)) (E.v (i := 1) rfl)) rfl (.inr s3''))
          (pss_cons (E.put (pe_op op_fdivW E.at (E.v (i := 1) rfl)) rfl rfl) (pss_one (ps_ret (E.v (i := 3) rfl))))) pss_nil)
      (pss_cons (ps_set nd s4 s4' (pe_op op_mod (pe_callTy call_int1 E.gi E.mi boot_int (pa_cons (pe_op op_pow (pe_op op_add (pe_op op_add E.at (pe_op op_mulW pe_int E.at)) pe_int) pe_int) pa_nil)) pe_int) rfl (.inr s4''))
        (pss_one (ps_ret (pe_op op_mod (pe_op op_mod (pe_callTy call_int1 E.gi E.mi boot_int (pa_cons (pe_op op_pow (pe_op op_add (pe_op op_add (pe_op op_mulW (E.v (i := 4) rfl) pe_int) (pe_op op_mulW pe_int E.at)) pe_int) pe_int) pa_nil)) pe_int) (E.v (i := 1) rfl))))))), ?_⟩
  intro D H p q st many i st' hs hd hk
  unfold draw at hd
  by_cases hb : 0 < many ∧ many < 1000000000 ∧ 0 ≤ st.cnt ∧ st.cnt < cntMax ∧ 0 ≤ st.mix ∧ st.mix < 2147483629
  case neg => rw [if_neg hb] at hd; cases hd
  rw [if_pos hb] at hd
  obtain ⟨m1, m2, c1, c2, x1, x2⟩ := hb
  -- one more is counted
  refine ev_add (at2 rfl hs) ev_c _ (put2 rfl hs fun H1 h1 => ?_)
  cases eg : drawGo st.cells st.cur st.mix with
  | mk cs1 rest =>
  obtain ⟨cur1, mix1⟩ := rest
  rw [eg] at hd
  dsimp only at hd
  have hq1 : cntMax = 281474976710656 := rfl
  refine whl_lem (fun σ' H' => ∃ a, σ' = [some (.ref p), some (.int many), a, none, none] ∧ HS H p q cs1 cur1 (st.cnt + 1) mix1 H' ∧ 0 ≤ mix1 ∧ mix1 < 2147483629) ?_ fun tail => ?_
  · -- behind the loop
    rintro σ' H2 ⟨a, rfl, h2, y1, y2⟩
    refine ev_gt (g := fun i j => decide (j < i)) (at1 rfl h2) ev_c ?_
    by_cases hc : cur1 > 0
    · rw [if_pos hc] at hd
      cases hd
      have hdec : decide ((0 : Int) < cur1) = true := decide_eq_true hc
      rw [hdec, if_pos rfl]
      refine ev_mod (ev_int (at1 rfl h2)) (ev_var rfl) m1 _ ?_
      refine ev_div (at1 rfl h2) (ev_var rfl) (div_c m1 (by omega)) _ (put1 rfl h2 fun H3 h3 => ?_)
      exact ev_var rfl _ (hk H3 h3)
    · rw [if_neg hc] at hd
      cases hd
      have hdec : decide ((0 : Int) < cur1) = false := decide_eq_false hc
      rw [hdec, if_neg Bool.false_ne_true]
      have e5 : (((5 : Nat) : Int).toNat) = 5 := rfl
      have e3 : (((3 : Nat) : Int).toNat) = 3 := rfl
      refine ev_mod (ev_int (ev_pow (ev_add (ev_add (at3 rfl h2) (ev_mul ev_c (at2 rfl h2) (mul_c (by decide) (by omega)))) ev_c) ev_c (pow_c (n := 5) (by omega) (by decide)))) ev_c (by decide) _ ?_
      have b1 : 0 ≤ (mix1 + 8191 * (st.cnt + 1) + 50021) ^ 5 % 2147483587 := Int.emod_nonneg _ (by decide)
      have b2 : (mix1 + 8191 * (st.cnt + 1) + 50021) ^ 5 % 2147483587 < 2147483587 := Int.emod_lt_of_pos _ (by decide)
      rw [e5]
      generalize (mix1 + 8191 * (st.cnt + 1) + 50021) ^ 5 % 2147483587 = mixed at b1 b2 hk
      refine ev_mod (ev_mod (ev_int (ev_pow (ev_add (ev_add (ev_mul (ev_var rfl) ev_c (mul_c (by omega) (by decide))) (ev_mul ev_c (at2 rfl h2) (mul_c (by decide) (by omega)))) ev_c) ev_c (pow_c (n := 3) (by omega) (by decide)))) ev_c (by decide)) (ev_var rfl) m1 _ ?_
      rw [e3]
      exact hk H2 h2
  · -- the loop
    refine ⟨fun m σ' H' => ∃ cs cur mix a, m = cs.length ∧ σ' = [some (.ref p), some (.int many), a, none, none] ∧ HS H p q cs cur (st.cnt + 1) mix H' ∧ drawGo cs cur mix = (cs1, cur1, mix1) ∧ 0 ≤ mix ∧ mix < 2147483629, ⟨_, st.cells, st.cur, st.mix, none, rfl, rfl, h1, eg, x1, x2⟩, ?_⟩
    rintro m σ' H2 ⟨cs, cur, mix, a, rfl, rfl, h2, e2, y1, y2⟩
    have stop : (cs = [] ∨ cur ≠ 0) → ∀ H3, HS H p q cs cur (st.cnt + 1) mix H3 → ∃ a', [some (V.ref p), some (.int many), a, none, none] = [some (.ref p), some (.int many), a', none, none] ∧ HS H p q cs1 cur1 (st.cnt + 1) mix1 H3 ∧ 0 ≤ mix1 ∧ mix1 < 2147483629 := fun hc H3 h3 => by
      rw [drawGo_end hc] at e2
      cases e2
      exact ⟨a, rfl, h3, y1, y2⟩
    refine at1 rfl h2 _ (ev_c _ (cmp_go (K := X.K) (o := .eq) (H := H2) (k := cur == 0) (y := yH H2) (lv := 0) (d := .int cur) (e := .int 0) (f := Fl.top) (g := Fl.top) (Sub.refl _) vw_int vw_int (by simp [cmpD, eqOk, eqD]) ⟨_, rfl, ?_⟩))
    by_cases hcur : cur = 0
    case neg =>
      have e0 : (cur == 0) = false := by simpa using hcur
      rw [e0]
      exact if0 (if0 (tail _ _ (stop (.inr hcur) H2 h2)))
    subst hcur
    rw [show ((0 : Int) == 0) = true from rfl]
    refine if1 (at0 rfl h2 _ ?_)
    refine ⟨Nat.zero_le _, fun l hl => ?_⟩
    have h3 := h2.alloc (o := .lst []) hl
    refine cmp_go (K := X.K) (o := .ne) (H := upd H2 l (.lst [])) (k := !cs.isEmpty) (y := yH (upd H2 l (.lst []))) (lv := 0) (f := Fl.top) (g := Fl.top) (d := .lst (cs.map Sd.D.int)) (e := .lst []) (Sub.refl _) (vw_ints h3.hq) (vw_ints (cs := []) upd_same) ?_ ⟨_, rfl, ?_⟩
    · have z1 : eqOk 60 (.lst (cs.map Sd.D.int)) = true := by show eqOks 59 (cs.map Sd.D.int) = true; exact eqOks_ints cs
      have z2 : eqOk 60 (.lst []) = true := rfl
      simp only [cmpD, z1, z2, Bool.and_self, if_true]
      cases cs <;> rfl
    cases cs with
    | nil => exact if0 (tail _ _ (stop (.inl rfl) _ h3))
    | cons x r =>
      rw [show (!(x :: r).isEmpty) = true from rfl]
      refine if1 ?_
      refine ⟨fun σ' H' => ∃ cs cur mix a, r.length = cs.length ∧ σ' = [some (.ref p), some (.int many), a, none, none] ∧ HS H p q cs cur (st.cnt + 1) mix H' ∧ drawGo cs cur mix = (cs1, cur1, mix1) ∧ 0 ≤ mix ∧ mix < 2147483629, fun σ' H' z => ⟨r.length, Nat.lt_succ_self _, z⟩, ?_⟩
      have nx : (x.natAbs : Int) = if x < 0 then -x else x := by split <;> omega
      refine at0 rfl h3 _ ⟨.inl ⟨rfl, _, .of h3.hq⟩, q, _, 0, 0, V.int x, rfl, rfl, h3.hq, by decide, by decide, (ixN_seq (j := 0) (by simp [ixN])).1, rfl, ⟨x, rfl, ?_⟩⟩
      rw [← nx]
      have h4 := h3.pop
      refine ev_mod (ev_int (ev_add (ev_add (ev_mul (at3 rfl h4) ev_c (mul_c (by omega) (by decide))) (ev_var rfl)) ev_c)) ev_c (by decide) _ (put3 rfl h4 fun H5 h5 => ?_)
      refine ev_gt (g := fun i j => decide (j ≤ i)) (ev_var rfl) (ev_pow ev_c ev_c (pow_c (n := 18) (by decide) (by decide))) ?_
      have ep : ((10 : Int) ^ ((18 : Int).toNat)) = 1000000000000000000 := by decide
      rw [ep]
      simp only [drawGo, if_true] at e2
      have b1 : 0 ≤ (mix * 6151 + (x.natAbs : Int) + 7) % 2147483629 := Int.emod_nonneg _ (by decide)
      have b2 : (mix * 6151 + (x.natAbs : Int) + 7) % 2147483629 < 2147483629 := Int.emod_lt_of_pos _ (by decide)
      by_cases hg : (1000000000000000000 : Int) ≤ (x.natAbs : Int)
      · rw [if_pos hg] at e2
        rw [decide_eq_true hg, if_pos rfl]
        exact ev_var rfl _ (put1 rfl h5 fun H6 h6 => ⟨r, _, _, _, rfl, rfl, h6, e2, b1, b2⟩)
      · rw [if_neg hg] at e2
        rw [decide_eq_false hg, if_neg Bool.false_ne_true]
        exact ev_c _ (put1 rfl h5 fun H6 h6 => ⟨r, _, _, _, rfl, rfl, h6, e2, b1, b2⟩)
end
end Sd

/-! Sd25: the draw's promise, the stream's, the law's. -/
namespace Sd
open PySem PySem.Spec PyProof.Rows L2
def drawN : List Str := ["stream", "many", "cell", "digit", "mixed"]
def cfDraw (as : List D) (s : List Stm) : Option (Fl × D × List Stm ⊕ Exn × List Stm) := match as with
  | [.stm g, .int many] => match s[g]? with
    | some t => (draw t many).map fun (i, t') => .inl (Fl.top, .int i, s.set g t')
    | none => none
  | _ => none
theorem cfDraw_inv {ds : List D} {s : List Stm} {o : Fl × D × List Stm ⊕ Exn × List Stm} (h : cfDraw ds s = some o) : ∃ g many t i t', ds = [.stm g, .int many] ∧ s[g]? = some t ∧ draw t many = some (i, t') ∧ o = .inl (Fl.top, .int i, s.set g t') := by
  unfold cfDraw at h
  split at h
  · rename_i g many
    split at h
    · rename_i t ht
      cases e : draw t many with
      | none => rw [e] at h; cases h
      | some p => rw [e] at h; cases h; exact ⟨g, many, t, p.1, p.2, rfl, ht, e, rfl⟩
    · cases h
  · cases h
theorem prim_draw {as : List D} {s : List Stm} : prim nDraw as s = cfDraw as s := by
  unfold prim cfDraw
  rw [if_pos rfl]
  all_goals rfl
structure DrFacts (K : PySem.W.Frag) (mg : Str → Option Value) (sc : Scope) (params : Arguments) (body : List Stmt) (f : Addr) (fd : FuncData) : Prop where
  ex : ∃ (oc : Value) (od : Option Addr) (kV doc pm : Value) (an : Option Addr) (cdv ct : Value) (osl : Array (Option Value)),
    fd = PySem.W.fnOf nDraw nDraw params body sc .none kV doc pm an cdv ct ∧ K.lookup f = some ⟨oc, od, .func fd, osl⟩ ∧ PySem.W.codeIn K cdv nDraw = true
  S : FnScope drawN ["stream", "many"] sc
  loc : ∀ x ∈ drawN, sc.names.lookup x = some .local
  ga : sc.names.lookup ("abs" : Str) = some .globalImplicit
  gi : sc.names.lookup ("int" : Str) = some .globalImplicit
  ma : mg "abs" = none
  mi : mg "int" = none
theorem nd_ne : ∀ {l : List (Addr × Addr)}, (l.flatMap fun p => [p.1, p.2]).Nodup → ∀ {p : Addr × Addr}, p ∈ l → p.1 ≠ p.2
  | [], _, _, h => by simp at h
  | r :: l, nd, p, hp => by
    simp only [List.flatMap_cons, List.cons_append, List.nil_append, List.nodup_cons, List.mem_cons, not_or] at nd
    rcases List.mem_cons.mp hp with rfl | hp
    · exact nd.1.1
    · exact nd_ne nd.2.2 hp
theorem nd_ix : ∀ {l : List (Addr × Addr)}, (l.flatMap fun p => [p.1, p.2]).Nodup → ∀ {i j : Nat} {p : Addr × Addr}, l[i]? = some p → l[j]? = some p → i = j
  | [], _, _, _, _, h, _ => by simp at h
  | r :: l, nd, 0, 0, _, _, _ => rfl
  | r :: l, nd, 0, j + 1, p, h1, h2 => by
    simp only [List.flatMap_cons, List.cons_append, List.nil_append, List.nodup_cons, List.mem_cons, not_or] at nd
    simp at h1; subst h1
    exact absurd (List.mem_flatMap.mpr ⟨r, List.mem_of_getElem? (by simpa using h2), by simp⟩) nd.1.2
  | r :: l, nd, i + 1, 0, p, h1, h2 => by
    simp only [List.flatMap_cons, List.cons_append, List.nil_append, List.nodup_cons, List.mem_cons, not_or] at nd
    simp at h2; subst h2
    exact absurd (List.mem_flatMap.mpr ⟨r, List.mem_of_getElem? (by simpa using h1), by simp⟩) nd.1.2
  | r :: l, nd, i + 1, j + 1, p, h1, h2 => by
    simp only [List.flatMap_cons, List.cons_append, List.nil_append, List.nodup_cons, List.mem_cons, not_or] at nd
    rw [nd_ix nd.2.2 (i := i) (j := j) (by simpa using h1) (by simpa using h2)]
theorem draw_fn {P : Program} {w : World} {K : PySem.W.Frag} {mg : Str → Option Value} {base : Heap} {ct : Ct} {k : Nat} {sc : Scope} {params : Arguments} {body : List Stmt} {f : Addr} {fd : FuncData} (F : DrFacts K mg sc params body f fd)
    {p1 p2 p3 p4 p5 p6 p7 p8 p9 p10 p11 p12 p13 p14 p15 p16 p17 p18 p19 p20 p21 p22 p23 p24 p25 p26 p27 p28 p29 p30 p31 p32 p33 p34 p35 p36 p37 p38 p39 p40 p41 p42 p43 p44 p45 p46 p47 p48 p49 p50 p51 p52 p53 p54 p55 p56 p57 p58 p59 p60 p61 p62 p63 p64 p65 p66 p67 p68 p69 p70 p71 p72 p73 p74 p75 p76 p77 p78 p79 p80 p81 p82 p83 p84 p85 p86 p87 p88 p89 p90 p91 p92 p93 p94 p95 p96 p97 p98 p99 p100 p101 p102 p103 p104 p105 p106 p107 p108 p109 p110 p111 p112 p113 p114 p115 p116 p117 p118 p119 p120 p121 p122 p123 p124 p125 : Pos} {k1 k2 k3 k4 k5 k6 k7 k8 k9 k10 k11 k12 k13 k14 k15 k16 k17 k18 k19 k20 k21 k22 k23 k24 k25 k26 k27 k28 k29 k30 k31 k32 k33 k34 : Nat} (hb : body = drawB p1 p2 p3 p4 p5 p6 p7 p8 p9 p10 p11 p12 p13 p14 p15 p16 p17 p18 p19 p20 p21 p22 p23 p24 p25 p26 p27 p28 p29 p30 p31 p32 p33 p34 p35 p36 p37 p38 p39 p40 p41 p42 p43 p44 p45 p46 p47 p48 p49 p50 p51 p52 p53 p54 p55 p56 p57 p58 p59 p60 p61 p62 p63 p64 p65 p66 p67 p68 p69 p70 p71 p72 p73 p74 p75 p76 p77 p78 p79 p80 p81 p82 p83 p84 p85 p86 p87 p88 p89 p90 p91 p92 p93 p94 p95 p96 p97 p98 p99 p100 p101 p102 p103 p104 p105 p106 p107 p108 p109 p110 p111 p112 p113 p114 p115 p116 p117 p118 p119 p120 p121 p122 p123 p124 p125 k1 k2 k3 k4 k5 k6 k7 k8 k9 k10 k11 k12 k13 k14 k15 k16 k17 k18 k19 k20 k21 k22 k23 k24 k25 k26 k27 k28 k29 k30 k31 k32 k33 k34) (hline : (p26.endLine == p28.line) = true) : FnG P w K mg base (L2.CX P w) (k + 1) f fd ["stream", "many"] (spF ct cfDraw 2) := by
  obtain ⟨oc, od, kV, doc, pm, an, cdv, ctv, osl, rfl, lk, hcd⟩ := F.ex
  subst hb
  refine fn_ofG lk hcd F.S (fun vs H Q E h => h.len) fun A outer s H vs Q E hr hsp => ?_
  have E1 : DrEnv (cxOf (L2.CX P w) P w K mg base drawN nDraw sc f cdv A outer s H E) := ⟨rfl, F.loc, F.ga, F.gi, F.ma, F.mi, rfl, ⟨k, hr⟩, passes_of rfl⟩
  obtain ⟨t, ht, run⟩ := draw_ps E1 (p1 := p1) (p2 := p2) (p3 := p3) (p4 := p4) (p5 := p5) (p6 := p6) (p7 := p7) (p8 := p8) (p9 := p9) (p10 := p10) (p11 := p11) (p12 := p12) (p13 := p13) (p14 := p14) (p15 := p15) (p16 := p16) (p17 := p17) (p18 := p18) (p19 := p19) (p20 := p20) (p21 := p21) (p22 := p22) (p23 := p23) (p24 := p24) (p25 := p25) (p26 := p26) (p27 := p27) (p28 := p28) (p29 := p29) (p30 := p30) (p31 := p31) (p32 := p32) (p33 := p33) (p34 := p34) (p35 := p35) (p36 := p36) (p37 := p37) (p38 := p38) (p39 := p39) (p40 := p40) (p41 := p41) (p42 := p42) (p43 := p43) (p44 := p44) (p45 := p45) (p46 := p46) (p47 := p47) (p48 := p48) (p49 := p49) (p50 := p50) (p51 := p51) (p52 := p52) (p53 := p53) (p54 := p54) (p55 := p55) (p56 := p56) (p57 := p57) (p58 := p58) (p59 := p59) (p60 := p60) (p61 := p61) (p62 := p62) (p63 := p63) (p64 := p64) (p65 := p65) (p66 := p66) (p67 := p67) (p68 := p68) (p69 := p69) (p70 := p70) (p71 := p71) (p72 := p72) (p73 := p73) (p74 := p74) (p75 := p75) (p76 := p76) (p77 := p77) (p78 := p78) (p79 := p79) (p80 := p80) (p81 := p81) (p82 := p82) (p83 := p83) (p84 := p84) (p85 := p85) (p86 := p86) (p87 := p87) (p88 := p88) (p89 := p89) (p90 := p90) (p91 := p91) (p92 := p92) (p93 := p93) (p94 := p94) (p95 := p95) (p96 := p96) (p97 := p97) (p98 := p98) (p99 := p99) (p100 := p100) (p101 := p101) (p102 := p102) (p103 := p103) (p104 := p104) (p105 := p105) (p106 := p106) (p107 := p107) (p108 := p108) (p109 := p109) (p110 := p110) (p111 := p111) (p112 := p112) (p113 := p113) (p114 := p114) (p115 := p115) (p116 := p116) (p117 := p117) (p118 := p118) (p119 := p119) (p120 := p120) (p121 := p121) (p122 := p122) (p123 := p123) (p124 := p124) (p125 := p125) (k1 := k1) (k2 := k2) (k3 := k3) (k4 := k4) (k5 := k5) (k6 := k6) (k7 := k7) (k8 := k8) (k9 := k9) (k10 := k10) (k11 := k11) (k12 := k12) (k13 := k13) (k14 := k14) (k15 := k15) (k16 := k16) (k17 := k17) (k18 := k18) (k19 := k19) (k20 := k20) (k21 := k21) (k22 := k22) (k23 := k23) (k24 := k24) (k25 := k25) (k26 := k26) (k27 := k27) (k28 := k28) (k29 := k29) (k30 := k30) (k31 := k31) (k32 := k32) (k33 := k33) (k34 := k34) hline
  refine ⟨t, ht, ?_⟩
  obtain ⟨sx, st, ds, A0, h1, h2, h3, h4, h5, h6⟩ := hsp
  cases e6 : cfDraw ds st with
  | none => rw [e6] at h6; exact h6.elim
  | some o =>
  obtain ⟨g, many, tt, i, tt', rfl, htt, hd, rfl⟩ := cfDraw_inv e6
  rw [e6] at h6
  obtain ⟨v1, r1, rfl, w1, h5⟩ := h5.inv
  obtain ⟨v2, r2, rfl, w2, h5⟩ := h5.inv
  simp only [Rps] at h5
  subst h5
  simp only [Rp] at w1 w2
  obtain ⟨⟨p, q⟩, hg, rfl⟩ := w1
  subst w2
  obtain ⟨a1, a2⟩ := h4.at_ g (p, q) tt hg htt
  have hmem := List.mem_of_getElem? hg
  have hne : p ≠ q := nd_ne h4.nd hmem
  have h6 : ∀ v H' sx' B, Aft sx (st.set g tt') sx' H H' → Back A0 Fl.top sx' H H' B → Rp sx' B (.int i) v → Q v H' := h6
  refine run _ H p q tt many i tt' ⟨a1, a2, hne, fun a o _ _ h => h⟩ hd fun H' hs => h6 (.int i) H' sx (fun _ => none) ?_ ⟨fun a o h => (by cases h), fun _ _ => ⟨rfl, rfl⟩, fun a o h => (by cases h), fun _ a o h => (by cases h)⟩ (by simp [Rp])
  refine ⟨Pre.refl _, ⟨by rw [List.length_set]; exact h4.len, fun g2 pq t2 e1 e2 => ?_, h4.nd⟩, fun q hq hn => absurd hq hn, fun a o h n => hs.keep a o (n _ hmem).1 (n _ hmem).2 h⟩
  by_cases hgg : g = g2
  · subst hgg
    rw [hg] at e1
    cases e1
    rw [List.getElem?_set_self (List.getElem?_eq_some_iff.mp htt).1] at e2
    cases e2
    exact ⟨hs.hp, hs.hq⟩
  · rw [List.getElem?_set_ne hgg] at e2
    obtain ⟨b1, b2⟩ := h4.at_ g2 pq t2 e1 e2
    have ap : ¬ ((pq.1 = p ∨ pq.1 = q) ∨ (pq.2 = p ∨ pq.2 = q)) := fun hh => by
      have e3 : pq = (p, q) := nd_apart h4.nd (List.mem_of_getElem? e1) hmem (by rcases hh with (hh | hh) | (hh | hh); exact .inl hh; exact .inr (.inl hh); exact .inr (.inr (.inl hh)); exact .inr (.inr (.inr hh)))
      subst e3
      exact hgg (nd_ix h4.nd hg e1)
    exact ⟨hs.keep _ _ (fun z => ap (.inl (.inl z))) (fun z => ap (.inl (.inr z))) b1, hs.keep _ _ (fun z => ap (.inr (.inl z))) (fun z => ap (.inr (.inr z))) b2⟩
end Sd

/-! Sd26: the stream, the law. -/
namespace Sd
open PySem PySem.Spec PyProof.Rows L2
abbrev streamB (p1 p2 p3 p4 p5 p6 p7 p8 : Pos) (k1 k2 k3 : Nat) : List Stmt :=
  [.Return (some (.List [(.Call (.Name "list" p1) [(.Name "script" p2)] [] p3), (.Constant (.int 0) k1 p4), (.Constant (.int 0) k2 p5), (.Constant (.int 19) k3 p6)] p7)) p8]
def spStream (K : PySem.W.Frag) : Sp := fun vs H Q E => ∃ a xs, vs = [.ref a] ∧ SqL K H a xs ∧ ∀ q p, H q = none → q ≠ p → H p = none → Q (.ref p) (upd (upd H q (.lst xs)) p (.lst [.ref q, .int 0, .int 0, .int 19]))
structure ScFacts (K : PySem.W.Frag) (mg : Str → Option Value) (x : Str) (N ps : List Str) (sc : Scope) (params : Arguments) (body : List Stmt) (f : Addr) (fd : FuncData) : Prop where
  ex : ∃ (oc : Value) (od : Option Addr) (kV doc pm : Value) (an : Option Addr) (cdv ct : Value) (osl : Array (Option Value)),
    fd = PySem.W.fnOf x x params body sc .none kV doc pm an cdv ct ∧ K.lookup f = some ⟨oc, od, .func fd, osl⟩ ∧ PySem.W.codeIn K cdv x = true
  S : FnScope N ps sc
theorem stream_fn {P : Program} {w : World} {K : PySem.W.Frag} {mg : Str → Option Value} {base : Heap} {k : Nat} {sc : Scope} {params : Arguments} {body : List Stmt} {f : Addr} {fd : FuncData} (F : ScFacts K mg "_law_stream" ["script"] ["script"] sc params body f fd)
    (hl : sc.names.lookup ("script" : Str) = some .local) (hg : sc.names.lookup ("list" : Str) = some .globalImplicit) (hm : mg "list" = none) {p1 p2 p3 p4 p5 p6 p7 p8 : Pos} {k1 k2 k3 : Nat} (hb : body = streamB p1 p2 p3 p4 p5 p6 p7 p8 k1 k2 k3) :
    FnG P w K mg base (L2.CX P w) (k + 1) f fd ["script"] (spStream K) := by
  obtain ⟨oc, od, kV, doc, pm, an, cdv, ctv, osl, rfl, lk, hcd⟩ := F.ex
  subst hb
  refine fn_ofG lk hcd F.S (fun vs H Q E ⟨a, xs, e, _⟩ => by rw [e]; rfl) fun A outer s H vs Q E hr ⟨a, xs, e, hs, h⟩ => ?_
  subst e
  have vs : PE (cxOf (L2.CX P w) P w K mg base ["script"] "_law_stream" sc f cdv A outer s H E) (.Name "script" p2) (tVar 0) := pe_var rfl (.inl hl)
  refine ⟨_, pss_one (ps_ret (pe_lst (pa_cons (pe_callTy call_list_of hg hm boot_list (pa_cons vs pa_nil)) (pa_cons pe_int (pa_cons pe_int (pa_cons pe_int pa_nil)))))), ?_⟩
  refine ⟨.ref a, rfl, a, xs, rfl, .inl hs, fun q hq => ?_⟩
  refine ⟨by rw [sizeLine_eq]; exact (by decide : 4 ≤ 16777216), fun p hp => ?_⟩
  obtain ⟨h1, h2⟩ := upd_none hp
  exact h q p hq (Ne.symm h2) h1
theorem perm_all {α : Type} {d : α} {ps : List Str} {as : List α} (h : as.length = ps.length) : perm d ps [] as [] = as := by
  unfold perm
  rw [List.drop_eq_nil_of_le (by omega)]
  simp
/-! ### the stream, as the evaluator has it -/
def cfStream (as : List D) (s : List Stm) : Option (Fl × D × List Stm ⊕ Exn × List Stm) := match as with
  | [.lst xs] => (intsOf xs).map fun ns => .inl (Fl.top, .stm s.length, s ++ [⟨ns, 0, 0, 19⟩])
  | _ => none
theorem prim_stream {as : List D} {s : List Stm} : prim nStream as s = cfStream as s := by
  unfold prim cfStream
  rw [if_neg (by decide), if_pos rfl]
  all_goals rfl
theorem strO_snoc {sx : List (Addr × Addr)} {s : List Stm} {H H' : Hp} {p q : Addr} {t : Stm} (h : StrO sx s H) (hp : H p = none) (hq : H q = none) (ne : q ≠ p) (k : ∀ a o, H a = some o → H' a = some o) (h1 : H' p = some (.lst [.ref q, .int t.cur, .int t.cnt, .int t.mix])) (h2 : H' q = some (.lst (t.cells.map V.int))) : StrO (sx ++ [(p, q)]) (s ++ [t]) H' := by
  have at0 : ∀ r ∈ sx, H r.1 ≠ none ∧ H r.2 ≠ none := fun r hr => by
    obtain ⟨g, hg⟩ := List.getElem?_of_mem hr
    have hl : g < s.length := by rw [← h.len]; exact (List.getElem?_eq_some_iff.mp hg).1
    obtain ⟨a, b⟩ := h.at_ g r _ hg (List.getElem?_eq_getElem hl)
    exact ⟨by rw [a]; exact (fun z => by cases z), by rw [b]; exact (fun z => by cases z)⟩
  refine ⟨by simp [h.len], fun g r u e1 e2 => ?_, ?_⟩
  · by_cases hg : g < sx.length
    · rw [List.getElem?_append_left hg] at e1
      rw [List.getElem?_append_left (by rw [← h.len]; exact hg)] at e2
      obtain ⟨a, b⟩ := h.at_ g r u e1 e2
      exact ⟨k _ _ a, k _ _ b⟩
    · rw [List.getElem?_append_right (by omega)] at e1
      rw [List.getElem?_append_right (by rw [← h.len]; omega), ← h.len] at e2
      cases e : g - sx.length with
      | zero =>
        rw [e] at e1 e2
        cases e1; cases e2
        exact ⟨h1, h2⟩
      | succ n => rw [e] at e1; simp at e1
  · rw [List.flatMap_append, List.nodup_append]
    refine ⟨h.nd, by simp [Ne.symm ne], fun a ha b hb e => ?_⟩
    subst e
    obtain ⟨r, hr, hm⟩ := List.mem_flatMap.mp ha
    obtain ⟨n1, n2⟩ := at0 r hr
    simp only [List.flatMap_cons, List.flatMap_nil, List.append_nil, List.mem_cons, List.not_mem_nil, or_false] at hb hm
    rcases hm with rfl | rfl <;> rcases hb with e | e
    · exact n1 (by rw [e]; exact hp)
    · exact n1 (by rw [e]; exact hq)
    · exact n2 (by rw [e]; exact hp)
    · exact n2 (by rw [e]; exact hq)
theorem stream_row {P : Program} {w : World} {K : PySem.W.Frag} {mg : Str → Option Value} {base : Heap} {ct : Ct} {k : Nat} {f : Addr} {fd : FuncData} {CX : CXT} (F : FnG P w K mg base CX k f fd ["script"] (spStream K)) : FnG P w K mg base CX k f fd ["script"] (spF ct cfStream 1) := by
  have imp : ∀ vs H Q E, spF ct cfStream 1 vs H Q E → spStream K vs H Q E := fun vs H Q E ⟨sx, s, ds, A, h1, h2, h3, h4, h5, h6⟩ => by
    cases e6 : cfStream ds s with
    | none => rw [e6] at h6; exact h6.elim
    | some o =>
      unfold cfStream at e6
      split at e6
      · rename_i xs
        cases e7 : intsOf xs with
        | none => rw [e7] at e6; cases e6
        | some ns =>
          rw [e7] at e6
          cases e6
          have hx := intsOf_inv e7
          subst hx
          obtain ⟨v, r, rfl, w1, h5⟩ := h5.inv
          simp only [Rps] at h5
          subst h5
          simp only [Rp] at w1
          obtain ⟨a, vs, rfl, ha, hv⟩ := w1
          have hv := hv.ints_inv
          subst hv
          have h6 : ∀ v H' sx' B, Aft sx (s ++ [⟨ns, 0, 0, 19⟩]) sx' H H' → Back A Fl.top sx' H H' B → Rp sx' B (.stm s.length) v → Q v H' := by simpa only [cfStream, e7, Option.map_some] using h6
          refine ⟨a, _, rfl, SqL.of (h2 _ _ ha), fun q p hq hqp hp => h6 (.ref p) _ (sx ++ [(p, q)]) (fun _ => none) ⟨⟨_, rfl⟩, strO_snoc h4 hp hq hqp (fun a o h => by rw [upd_ne (ne_of_none h hp), upd_ne (ne_of_none h hq)]; exact h) upd_same (by rw [upd_ne hqp, upd_same]), fun r hr hn => ?_, fun a o h _ => by rw [upd_ne (ne_of_none h hp), upd_ne (ne_of_none h hq)]; exact h⟩ ⟨fun a o h => (by cases h), fun _ _ => ⟨rfl, rfl⟩, fun a o h => (by cases h), fun _ a o h => (by cases h)⟩ ?_⟩
          · rcases List.mem_append.mp hr with hr | hr
            · exact absurd hr hn
            · simp only [List.mem_singleton] at hr
              subst hr
              exact ⟨hp, hq⟩
          · simp only [Rp]
            exact ⟨(p, q), by rw [← h4.len]; simp, rfl⟩
      · cases e6
  exact F.imp imp
def spLaw (K : PySem.W.Frag) : Sp := fun vs H Q E => ∃ (a : Addr) (ns : List Int), vs = [.ref a] ∧ SqL K H a (ns.map V.int) ∧ ns.length ≤ 63 ∧ ∀ H', Q (.bl true) H'
/-- the slots behind the law's first row -/
def lawR (n : Nat) : List Slot := .un :: .sh Fl.top (.stm 0) :: List.replicate n .un
theorem law_fn {P : Program} {w : World} {K : PySem.W.Frag} {mg : Str → Option Value} {base : Heap} {us : List Str} {ct : Ct} {cl : Caller} {sg : Sig} {k : Nat} {a : Ann} {params : Arguments} {rest : List Stmt} {sc : Scope} {f : Addr} {fd : FuncData} {Nr : List Str} {q1 q2 q3 q4 q5 : Pos}
    (M : ModEnv P w K mg base us ct cl sg k) (F : FnFacts K "law" a ["script"] params (.Assign [.Name "stream" q1] (.Call (.Name "_law_stream" q2) [.Name "script" q3] [] q4) q5 :: rest) sc f fd) (hN : a.N = ("script" : Str) :: ("stream" : Str) :: Nr)
    (hst : ∃ fa fdS, mg "_law_stream" = some (.ref fa) ∧ PySem.W.keepIn K (.ref fa) = true ∧ PlainPs fdS.params ∧ fdS.defaults = .none ∧ fdS.params.args.map (·.arg) = (["script"] : List Str) ∧ FnG P w K mg base (L2.CX P w) k fa fdS ["script"] (spStream K))
    (g1 : sc.names.lookup ("_law_stream" : Str) = some .globalImplicit) (l1 : isSto sc "script" = true) (l2 : isSto sc "stream" = true)
    (law : ∀ ns : List Int, ns.length ≤ 63 → ∃ f c', exL cl sg 1 false (cL us a 200 sc rest) ⟨lawR Nr.length, [⟨ns, 0, 0, 19⟩]⟩ = .rt f (.bl true) c') :
    FnG P w K mg base (L2.CX P w) (k + 1) f fd ["script"] (spLaw K) := by
  obtain ⟨oc, od, kV, doc, pm, an, cdv, ctv, osl, rfl, lk, hcd⟩ := F.ex
  refine fn_ofG lk hcd F.S (fun vs H Q E ⟨a, ns, e, _⟩ => by rw [e]; rfl) fun A outer s H vs Q E hr ⟨ad, ns, e, hs, hlen, hq⟩ => ?_
  subst e
  have tk : Takes (cxOf (L2.CX P w) P w K mg base a.N "law" sc f cdv A outer s H E) (fun cls d _ H => E cls d H) := takes_of rfl rfl rfl rfl
  have env : DefEnv (cxOf (L2.CX P w) P w K mg base a.N "law" sc f cdv A outer s H E) us a ct cl sg k (fun cls d _ H => E cls d H) sc :=
    ⟨⟨rfl, F.S.nd, rfl, hr, M.blt, fun x hx => ⟨M.cals x hx⟩, M.nodbg⟩, rfl, F.S.kind, ⟨rfl, F.S.nd, fun z hz => ⟨isSto_loc hz, .inl rfl⟩⟩, passes_of rfl, tk, M.spoil _ rfl rfl rfl rfl rfl hr rfl _ tk⟩
  obtain ⟨fa, fdS, s1, s2, s3, s4, s5, s6⟩ := hst
  have n0 : (cxOf (L2.CX P w) P w K mg base a.N "law" sc f cdv A outer s H E).N[0]? = some ("script" : Str) := by show a.N[0]? = _; rw [hN]; rfl
  have n1 : (cxOf (L2.CX P w) P w K mg base a.N "law" sc f cdv A outer s H E).N[1]? = some ("stream" : Str) := by show a.N[1]? = _; rw [hN]; rfl
  have vs : PE (cxOf (L2.CX P w) P w K mg base a.N "law" sc f cdv A outer s H E) (.Name "script" q3) (tVar 0) := pe_var n0 (isSto_vis l1)
  have g1' : Gl (cxOf (L2.CX P w) P w K mg base a.N "law" sc f cdv A outer s H E) "_law_stream" := g1
  have call := pe_callP (X := cxOf (L2.CX P w) P w K mg base a.N "law" sc f cdv A outer s H E) (pos := q4) (p := q2) (ks := []) (E := WE fun cls d _ H => E cls d H) s6 hr g1' s1 s2 s3 s4 s5 (by decide) (fun σ => passAt tk σ) (pa_cons vs pa_nil rfl) pk_nil rfl rfl (by decide) rfl (fun e => by cases e)
  refine ⟨_, pss_cons (ps_set F.S.nd n1 (isSto_loc l2) call rfl (.inl rfl)) ((st_all env 200 1 false).2 rest), ?_⟩
  have st0 : (L2.start a.N [V.ref ad])[0]? = some (some (.ref ad)) := start_get rfl
  refine ⟨.ref ad, st0, (by decide : permOk ["script"] [] 1 0 = true), ?_⟩
  rw [perm_all (as := [V.ref ad]) (ps := ["script"]) rfl]
  refine ⟨ad, _, rfl, hs, fun q p hq1 hqp hp1 => ?_⟩
  show tL ct cl sg _ 1 false (cL us a 200 sc rest) _ ((L2.start a.N [V.ref ad]).set 1 (some (.ref p))) _
  obtain ⟨fl, c', he⟩ := law ns hlen
  have hlenN : (L2.start a.N [V.ref ad]).length = a.N.length := by
    unfold L2.start
    have : 1 ≤ a.N.length := by rw [hN]; simp
    simp; omega
  refine ⟨⟨fun _ => none, fun _ => none, fun _ _ => none, [(p, q)]⟩, ⟨lawR Nr.length, [⟨ns, 0, 0, 19⟩]⟩, ?_, ?_⟩
  · refine ⟨Nat.le_refl _, fun a h => absurd rfl h, ⟨fun _ _ _ => Sub.refl _, fun _ _ => rfl⟩, fun a o h => (by cases h), fun a o h => (by cases h), fun a h => absurd rfl h, fun a o h => (by cases h), fun i sl hi => ?_, fun i j r ⟨⟨f, d, h⟩, _⟩ => ?_, ⟨rfl, fun g pq t e1 e2 => ?_, fun _ _ => ⟨rfl, rfl, rfl, rfl⟩, ?_⟩, ?_⟩
    · have hi : (lawR Nr.length)[i]? = some sl := hi
      unfold lawR at hi
      match i, hi with
      | 0, hi => cases hi; trivial
      | 1, hi =>
        cases hi
        refine ⟨.ref p, getD_set_self (by rw [hlenN, hN]; simp), ?_⟩
        simp only [Rp]
        exact ⟨(p, q), rfl, rfl⟩
      | i + 2, hi =>
        have hi : (List.replicate Nr.length Slot.un)[i]? = some sl := hi
        rw [List.getElem?_replicate] at hi
        split at hi
        · cases hi; trivial
        · cases hi
    · have h : (lawR Nr.length)[i]? = some (.ow f d) := h
      unfold lawR at h
      match i, h with
      | 0, h => cases h
      | 1, h => cases h
      | i + 2, h =>
        have h : (List.replicate Nr.length Slot.un)[i]? = some (.ow f d) := h
        rw [List.getElem?_replicate] at h
        split at h <;> cases h
    · match g, e1, e2 with
      | 0, e1, e2 =>
        cases e1; cases e2
        exact ⟨upd_same, by rw [upd_ne hqp, upd_same]⟩
      | g + 1, e1, _ => simp at e1
    · simp [Ne.symm hqp]
    · show (lawR Nr.length).length = ((L2.start a.N [V.ref ad]).set 1 (some (.ref p))).length
      rw [List.length_set, hlenN, hN]
      simp [lawR]
  · rw [he]
    exact fun y' σ' v H' x s r => by
      have e : v = .bl true := by simpa only [Rp] using r
      rw [e]; exact hq H'
end Sd

/-! Sd27: all defs, by how deep calls may go. -/
namespace Sd
open PySem PySem.Spec PyProof.Rows L2
/-- a def of the text, in the program -/
structure DefRow (K : PySem.W.Frag) (mg : Str → Option Value) (us : List Str) (Pr : Pg) (x : Str) : Prop where
  ex : ∃ (a : Ann) (ps : List Str) (params : Arguments) (body : List Stmt) (sc : Scope) (f : Addr) (fd : FuncData), FnFacts K x a ps params body sc f fd ∧ mg x = some (.ref f) ∧ PySem.W.keepIn K (.ref f) = true ∧ PlainPs params ∧ params.args.map (·.arg) = ps ∧ ps.Nodup ∧ Pr.lookup x = some ⟨ps, a.N, cL us a 200 sc body⟩
/-- the draw -/
structure DrawRow (P : Program) (w : World) (K : PySem.W.Frag) (mg : Str → Option Value) (base : Heap) (ct : Ct) (Pr : Pg) : Prop where
  no : Pr.lookup nDraw = none
  ex : ∃ (f : Addr) (fd : FuncData), mg nDraw = some (.ref f) ∧ PySem.W.keepIn K (.ref f) = true ∧ PlainPs fd.params ∧ fd.defaults = .none ∧ fd.params.args.map (·.arg) = (["stream", "many"] : List Str) ∧ ∀ k, FnG P w K mg base (L2.CX P w) (k + 1) f fd ["stream", "many"] (spF ct cfDraw 2)
structure StrmRow (P : Program) (w : World) (K : PySem.W.Frag) (mg : Str → Option Value) (base : Heap) (ct : Ct) (Pr : Pg) : Prop where
  no : Pr.lookup nStream = none
  ex : ∃ (f : Addr) (fd : FuncData), mg nStream = some (.ref f) ∧ PySem.W.keepIn K (.ref f) = true ∧ PlainPs fd.params ∧ fd.defaults = .none ∧ fd.params.args.map (·.arg) = (["script"] : List Str) ∧ ∀ k, FnG P w K mg base (L2.CX P w) (k + 1) f fd ["script"] (spF ct cfStream 1)
def Spoils (P : Program) (w : World) (K : PySem.W.Frag) (mg : Str → Option Value) (base : Heap) (ct : Ct) (k : Nat) : Prop :=
  ∀ (cl : Caller) (sg : Sig) (X : Cx), X.prog = P → X.w = w → X.K = K → X.mg = mg → X.base = base → RoomG k X.A → X.calm = true → ∀ (W : WX), Takes X W → Gl X "_law_spoilt" → ∀ (lv : Nat) (x : Expr) (i : IE) (p pos pos2 : Pos), isStar x = false → PE X x (tE ct cl sg W lv i) →
    PS X (.Expr (.Call (.Name "_law_spoilt" p) [x] [] pos) pos2) (tS ct cl sg W lv true (.spoil i))
theorem all_env {P : Program} {w : World} {K : PySem.W.Frag} {mg : Str → Option Value} {base : Heap} {us : List Str} {ct : Ct} {Pr : Pg} {k0 : Nat} (blt : ∀ x ∈ bnames, mg x = none) (nodbg : ("__debug__" : Str) ∉ us)
    (rows : ∀ x ∈ us, x ≠ nDraw → x ≠ nStream → DefRow K mg us Pr x) (dr : DrawRow P w K mg base ct Pr) (sr : nStream ∈ us → StrmRow P w K mg base ct Pr) (sp : Spoils P w K mg base ct k0) : ∀ n, ModEnv P w K mg base us ct (callF Pr n) (sgOf Pr) (k0 + n)
  | 0 => by
    refine ⟨blt, nodbg, fun x hx => ?_, fun X h1 h2 h3 h4 h5 hr hc W tk hg => sp _ _ X h1 h2 h3 h4 h5 hr hc W tk hg⟩
    have e0 : ∀ n, spF ct (callF Pr 0 x) n = spF ct (fun _ _ => none) n := fun n => rfl
    by_cases hd : x = nDraw
    · subst hd
      obtain ⟨f, fd, d1, d2, d3, d4, d5, d6⟩ := dr.ex
      have es : sgOf Pr nDraw = (["stream", "many"] : List Str) := by unfold sgOf; rw [dr.no]; rfl
      rw [es]
      exact ⟨f, fd, d1, d2, d3, d4, d5, by decide, by rw [e0]; exact fn_none⟩
    by_cases hs : x = nStream
    · subst hs
      obtain ⟨no, f, fd, d1, d2, d3, d4, d5, d6⟩ := sr hx
      have es : sgOf Pr nStream = (["script"] : List Str) := by unfold sgOf; rw [no]; rfl
      rw [es]
      exact ⟨f, fd, d1, d2, d3, d4, d5, by decide, by rw [e0]; exact fn_none⟩
    · obtain ⟨a, ps, params, body, sc, f, fd, F, d1, d2, d3, d4, d5, d6⟩ := (rows x hx hd hs).ex
      have es : sgOf Pr x = ps := by unfold sgOf; rw [d6]
      have efd : fd.params = params ∧ fd.defaults = .none := by obtain ⟨_, _, _, _, _, _, _, _, _, rfl, _⟩ := F.ex; exact ⟨rfl, rfl⟩
      rw [es]
      exact ⟨f, fd, d1, d2, by rw [efd.1]; exact d3, efd.2, by rw [efd.1]; exact d4, d5, by rw [e0]; exact fn_none⟩
  | n + 1 => by
    have M := all_env blt nodbg rows dr sr sp n
    refine ⟨blt, nodbg, fun x hx => ?_, fun X h1 h2 h3 h4 h5 hr hc W tk hg => sp _ _ X h1 h2 h3 h4 h5 (hr.mono (by omega)) hc W tk hg⟩
    by_cases hd : x = nDraw
    · subst hd
      obtain ⟨f, fd, d1, d2, d3, d4, d5, d6⟩ := dr.ex
      have es : sgOf Pr nDraw = (["stream", "many"] : List Str) := by unfold sgOf; rw [dr.no]; rfl
      have ec : callF Pr (n + 1) nDraw = cfDraw := by
        funext as s
        simp only [callF, dr.no]
        exact prim_draw
      rw [es, ec]
      exact ⟨f, fd, d1, d2, d3, d4, d5, by decide, d6 _⟩
    by_cases hs : x = nStream
    · subst hs
      obtain ⟨no, f, fd, d1, d2, d3, d4, d5, d6⟩ := sr hx
      have es : sgOf Pr nStream = (["script"] : List Str) := by unfold sgOf; rw [no]; rfl
      have ec : callF Pr (n + 1) nStream = cfStream := by
        funext as s
        simp only [callF, no]
        exact prim_stream
      rw [es, ec]
      exact ⟨f, fd, d1, d2, d3, d4, d5, by decide, d6 _⟩
    · obtain ⟨a, ps, params, body, sc, f, fd, F, d1, d2, d3, d4, d5, d6⟩ := (rows x hx hd hs).ex
      have es : sgOf Pr x = ps := by unfold sgOf; rw [d6]
      have efd : fd.params = params ∧ fd.defaults = .none := by obtain ⟨_, _, _, _, _, _, _, _, _, rfl, _⟩ := F.ex; exact ⟨rfl, rfl⟩
      rw [es]
      refine ⟨f, fd, d1, d2, by rw [efd.1]; exact d3, efd.2, by rw [efd.1]; exact d4, d5, fn_ok M F fun as s => ?_⟩
      simp only [callF, d6]
end Sd

/-! Sd28: what is spoilt. -/
namespace Sd
open PySem PySem.Spec PyProof.Rows L2
abbrev spoilB (p1 p2 p3 p4 p5 p6 p7 p8 p9 p10 p11 p12 p13 p14 p15 p16 p17 p18 p19 p20 p21 p22 p23 p24 p25 p26 p27 p28 p29 p30 p31 p32 p33 p34 p35 p36 p37 p38 p39 p40 p41 p42 p43 p44 p45 : Pos) (k1 k2 k3 k4 : Nat) : List Stmt := [
  .If (.Call (.Name "isinstance" p1) [(.Name "thing" p2), (.Name "dict" p3)] [] p4) [.For (.Name "key" p5) (.Call (.Name "list" p6) [(.Name "thing" p7)] [] p8) [.Expr (.Call (.Name "_law_spoilt" p9) [(.Subscript (.Name "thing" p10) (.Name "key" p11) p12)] [] p13) p14] [] p15, .Assign [(.Subscript (.Name "thing" p16) (.Constant (.str "late") k1 p17) p18)] (.Constant (.int 1) k2 p19) p20] [] p21,
  .If (.Call (.Name "isinstance" p22) [(.Name "thing" p23), (.Tuple [(.Name "list" p24), (.Name "tuple" p25)] k3 p26)] [] p27) [.For (.Name "part" p28) (.Name "thing" p29) [.Expr (.Call (.Name "_law_spoilt" p30) [(.Name "part" p31)] [] p32) p33] [] p34] [] p35,
  .If (.Call (.Name "isinstance" p36) [(.Name "thing" p37), (.Name "list" p38)] [] p39) [.Expr (.Call (.Attribute (.Name "thing" p40) "append" p41) [(.Constant (.str "late") k4 p42)] [] p43) p44] [] p45]
/-! ### ranks -/
def okv (R : Nat → Addr → Prop) (m : Nat) : V → Prop
  | .ref b => R m b
  | .non => True | .bl _ => True | .int _ => True | .str _ => True
  | _ => False
def late : V := .str "late"
/-- each address of a rank: what stands there, what weighs it -/
def OkH (S : Addr → Prop) (R : Nat → Addr → Prop) (wt : V → Nat) (H : Hp) : Prop := ∀ m a, R m a → ∃ k vs, m = k + 1 ∧ (H a = some (.tup vs) ∨ (S a ∧ H a = some (.lst vs))) ∧ (∀ u ∈ vs, okv R k u) ∧ 1 + (vs.map wt).sum ≤ wt (.ref a)
/-- b more may be put to each list -/
def OkL (R : Nat → Addr → Prop) (H : Hp) (b : Nat) : Prop := ∀ m a vs, R m a → H a = some (.lst vs) → vs.length + b ≤ sizeLine
def Gr (S : Addr → Prop) (R : Nat → Addr → Prop) (n b : Nat) (H H' : Hp) : Prop := ∀ a o, H a = some o → H' a = some o ∨ (S a ∧ R n a ∧ ∃ vs j, j ≤ b ∧ o = .lst vs ∧ H' a = some (.lst (vs ++ List.replicate j late)))
section
variable {S : Addr → Prop} {R : Nat → Addr → Prop} {wt : V → Nat} {n b b' : Nat} {H H' H'' : Hp}
theorem Gr.refl : Gr S R n b H H := fun a o h => .inl h
theorem Gr.of (h : Sub H H') : Gr S R n b H H' := fun a o e => .inl (h a o e)
theorem Gr.trans (g : Gr S R n b H H') (g' : Gr S R n b' H' H'') : Gr S R n (b + b') H H'' := fun a o h => by
  rcases g a o h with h1 | ⟨h1, h2, vs, j, hj, rfl, h3⟩
  · rcases g' a o h1 with h2 | ⟨h2, h3, vs, j, hj, e, h4⟩
    · exact .inl h2
    · exact .inr ⟨h2, h3, vs, j, by omega, e, h4⟩
  · rcases g' a _ h3 with h4 | ⟨_, _, vs', j', hj', e, h5⟩
    · exact .inr ⟨h1, h2, vs, j, by omega, rfl, h4⟩
    · cases e
      exact .inr ⟨h1, h2, vs, j + j', by omega, rfl, by rw [h5, List.append_assoc, List.replicate_append_replicate]⟩
theorem Gr.up (mono : ∀ a, R n a → R (n + 1) a) (g : Gr S R n b H H') : Gr S R (n + 1) b H H' := fun a o h => by
  rcases g a o h with h1 | ⟨h1, h2, h3⟩
  · exact .inl h1
  · exact .inr ⟨h1, mono a h2, h3⟩
theorem Gr.more (hb : b ≤ b') (g : Gr S R n b H H') : Gr S R n b' H H' := fun a o h => by
  rcases g a o h with h1 | ⟨h1, h2, vs, j, hj, h3⟩
  · exact .inl h1
  · exact .inr ⟨h1, h2, vs, j, by omega, h3⟩
theorem OkH.gr (w0 : wt late = 0) (k : OkH S R wt H) (g : Gr S R n b H H') : OkH S R wt H' := fun m a h => by
  obtain ⟨i, vs, e, h1, h2, hw⟩ := k m a h
  rcases h1 with h1 | ⟨h0, h1⟩
  · rcases g a _ h1 with h3 | ⟨_, _, _, _, _, z, _⟩
    · exact ⟨i, vs, e, .inl h3, h2, hw⟩
    · cases z
  · rcases g a _ h1 with h3 | ⟨_, _, ws, j, _, z, h3⟩
    · exact ⟨i, vs, e, .inr ⟨h0, h3⟩, h2, hw⟩
    · cases z
      refine ⟨i, _, e, .inr ⟨h0, h3⟩, fun u hu => ?_, ?_⟩
      · rcases List.mem_append.mp hu with hu | hu
        · exact h2 u hu
        · rw [(List.mem_replicate.mp hu).2]; trivial
      · have z : ((List.replicate j late).map wt).sum = 0 := by
          rw [List.map_replicate, w0, List.sum_replicate_nat]; simp
        rw [List.map_append, List.sum_append, z]; exact hw
theorem OkL.gr (k : OkH S R wt H) (l : OkL R H (b + b')) (g : Gr S R n b H H') : OkL R H' b' := fun m a vs hr h => by
  obtain ⟨i, ws, e, h1, _⟩ := k m a hr
  have same : ∀ o, H a = some o → H' a = some o → vs.length + b' ≤ sizeLine := fun o h2 h3 => by
    rw [h] at h3; cases h3
    have := l m a vs hr h2; omega
  rcases h1 with h1 | ⟨_, h1⟩
  · rcases g a _ h1 with h3 | ⟨_, _, _, _, _, z, _⟩
    · exact same _ h1 h3
    · cases z
  · rcases g a _ h1 with h3 | ⟨_, _, us, j, hj, z, h3⟩
    · exact same _ h1 h3
    · cases z
      rw [h] at h3; cases h3
      have := l m a ws hr h1
      rw [List.length_append, List.length_replicate]; omega
end
/-- what is spoilt is of the rank n -/
def spSpoil (n : Nat) : Sp := fun vs H Q E => ∃ v S R wt, vs = [v] ∧ okv R n v ∧ OkH S R wt H ∧ OkL R H (wt v) ∧ wt late = 0 ∧ (∀ m a, R m a → R (m + 1) a) ∧ ∀ H', Gr S R n (wt v) H H' → Q .non H'
structure SpFacts (K : PySem.W.Frag) (mg : Str → Option Value) (sc : Scope) (params : Arguments) (body : List Stmt) (f : Addr) (fd : FuncData) : Prop where
  ex : ∃ (oc : Value) (od : Option Addr) (kV doc pm : Value) (an : Option Addr) (cdv ct : Value) (osl : Array (Option Value)),
    fd = PySem.W.fnOf "_law_spoilt" "_law_spoilt" params body sc .none kV doc pm an cdv ct ∧ K.lookup f = some ⟨oc, od, .func fd, osl⟩ ∧ PySem.W.codeIn K cdv "_law_spoilt" = true
  S : FnScope (["thing", "key", "part"] : List Str) ["thing"] sc
  lt : sc.names.lookup ("thing" : Str) = some .local
  lp : sc.names.lookup ("part" : Str) = some .local
  gi : sc.names.lookup ("isinstance" : Str) = some .globalImplicit
  gl : sc.names.lookup ("list" : Str) = some .globalImplicit
  gt : sc.names.lookup ("tuple" : Str) = some .globalImplicit
  gd : sc.names.lookup ("dict" : Str) = some .globalImplicit
  gs : sc.names.lookup ("_law_spoilt" : Str) = some .globalImplicit
  mi : mg "isinstance" = none
  ml : mg "list" = none
  mt : mg "tuple" = none
  md : mg "dict" = none
  ms : mg "_law_spoilt" = some (.ref f)
  kp : PySem.W.keepIn K (.ref f) = true
  pl : PlainPs params
  pa : params.args.map (·.arg) = (["thing"] : List Str)
/-- what kind of thing v is, as data of one level -/
def sh1 : V → Hp → D
  | .non, _ => .non
  | .bl b, _ => .bl b
  | .int i, _ => .int i
  | .str x, _ => .str x
  | .ref a, H => match H a with
    | some (.tup _) => .tup []
    | _ => .lst []
  | _, _ => .non
theorem tyx_sh {K : PySem.W.Frag} {S : Addr → Prop} {R : Nat → Addr → Prop} {wt : V → Nat} {n : Nat} {H : Hp} {v : V} (k : OkH S R wt H) (h : okv R n v) : TyX K H v (.type (dS (sh1 v H))) ∧ opq (sh1 v H) = false := by
  cases v with
  | non => exact ⟨.base .non, rfl⟩
  | bl b => exact ⟨.base (.bl b), rfl⟩
  | int b => exact ⟨.base (.int b), rfl⟩
  | str b => exact ⟨.base (.str b), rfl⟩
  | ref a =>
    obtain ⟨i, vs, _, h1, _⟩ := k n a h
    rcases h1 with h1 | ⟨_, h1⟩
    · simp only [sh1, h1]; exact ⟨.base (.tup h1), rfl⟩
    · simp only [sh1, h1]; exact ⟨.base (.lst h1), rfl⟩
  | _ => exact h.elim
end Sd

/-! Sd29: `_law_spoilt`. -/
namespace Sd
open PySem PySem.Spec PyProof.Rows L2
section
variable {X : Cx}
structure SpEnv (X : Cx) : Prop where
  N : X.N = (["thing", "key", "part"] : List Str)
  lt : X.env.scope.names.lookup ("thing" : Str) = some .local
  lp : X.env.scope.names.lookup ("part" : Str) = some .local
  gi : Gl X "isinstance"
  gl : Gl X "list"
  gt : Gl X "tuple"
  gd : Gl X "dict"
  mi : X.mg "isinstance" = none
  ml : X.mg "list" = none
  mt : X.mg "tuple" = none
  md : X.mg "dict" = none
  calm : X.calm = true
  pass : PassesOwn (model X.prog X.w) X.A X.env X.xe
theorem SpEnv.v (E : SpEnv X) {p : Pos} : PE X (.Name "thing" p) (tVar 0) := pe_var (by rw [E.N]; rfl) (.inl E.lt)
theorem SpEnv.vp (E : SpEnv X) {p : Pos} : PE X (.Name "part" p) (tVar 2) := pe_var (by rw [E.N]; rfl) (.inl E.lp)
theorem boot_isi : bootBuiltins "isinstance" = some (.builtin "isinstance") := by with_unfolding_all decide +kernel
/-- isinstance(thing, T) -/
def tIs1 (K : PySem.W.Frag) (t : Ty) : TT := fun σ H Q => (tCB (rIsi K) (tCons (tVar 0) (tCons (tC (V.ty (tyS t))) tNil))) σ H fun x H' => ∃ k, TruV K x H' k ∧ Q k H'
theorem SpEnv.isList (E : SpEnv X) {p q r c : Pos} : PT X (.Call (.Name "isinstance" p) [.Name "thing" q, .Name "list" r] [] c) (tIs1 X.K .list) :=
  pt_truth (pe_callB call_isi E.gi E.mi boot_isi (pa_cons E.v (pa_cons (pe_bltn E.gl E.ml (boot_ty .list) rfl) pa_nil))) fun _ => rfl
theorem SpEnv.isDict (E : SpEnv X) {p q r c : Pos} : PT X (.Call (.Name "isinstance" p) [.Name "thing" q, .Name "dict" r] [] c) (tIs1 X.K .dict) :=
  pt_truth (pe_callB call_isi E.gi E.mi boot_isi (pa_cons E.v (pa_cons (pe_bltn E.gd E.md (boot_ty .dict) rfl) pa_nil))) fun _ => rfl
def tIs2 (K : PySem.W.Frag) : TT := fun σ H Q => (tCB (rIsiT K) (tCons (tVar 0) (tCons (tTup (tCons (tC (V.ty (tyS .list))) (tCons (tC (V.ty (tyS .tuple))) tNil))) tNil))) σ H fun x H' => ∃ k, TruV K x H' k ∧ Q k H'
theorem SpEnv.isSeq (E : SpEnv X) {p q r r2 t c : Pos} {j : Nat} : PT X (.Call (.Name "isinstance" p) [.Name "thing" q, .Tuple [.Name "list" r, .Name "tuple" r2] j t] [] c) (tIs2 X.K) :=
  pt_truth (pe_callB call_isiT E.gi E.mi boot_isi (pa_cons E.v (pa_cons (pe_tup (pa_cons (pe_bltn E.gl E.ml (boot_ty .list) rfl) (pa_cons (pe_bltn E.gt E.mt (boot_ty .tuple) rfl) pa_nil))) pa_nil))) fun _ => rfl
end
section
variable {K : PySem.W.Frag} {S : Addr → Prop} {R : Nat → Addr → Prop} {wt : V → Nat} {n : Nat} {σ : L2.St} {H : Hp} {v : V} {Q : Bool → Hp → Prop}
theorem is1_run {t : Ty} (k : OkH S R wt H) (h : okv R n v) (h0 : σ[0]? = some (some v)) (q : Q (isTy t (sh1 v H)) H) : tIs1 K t σ H Q := by
  obtain ⟨ty, nd⟩ := tyx_sh (K := K) k h
  exact ⟨v, h0, v, V.ty (tyS t), _, _, _, rfl, .ty _, ty, kit_tab K t _ nd, _, rfl, q⟩
theorem is2_run (k : OkH S R wt H) (w0 : wt late = 0) (h : okv R n v) (h0 : σ[0]? = some (some v)) (q : ∀ p cs, H p = none → Q (isTy .list (sh1 v H) || isTy .tuple (sh1 v H)) (upd H p (.tup cs))) : tIs2 K σ H Q := by
  refine ⟨v, h0, by rw [sizeLine_eq]; exact (by decide : 2 ≤ 16777216), fun p hp => ?_⟩
  have k1 := k.gr (n := 0) (b := 0) w0 (Gr.of (Sub.to_upd (o := .tup [V.ty (tyS .list), V.ty (tyS .tuple)]) hp))
  obtain ⟨ty, nd⟩ := tyx_sh (K := K) k1 h
  have es : sh1 v (upd H p (.tup [V.ty (tyS .list), V.ty (tyS .tuple)])) = sh1 v H := by
    cases v <;> first | rfl | skip
    rename_i a
    obtain ⟨_, _, _, h1, _⟩ := k n a h
    have : a ≠ p := by
      rcases h1 with h1 | ⟨_, h1⟩
      · exact ne_of_none h1 hp
      · exact ne_of_none h1 hp
    simp only [sh1, upd_ne this]
  rw [es] at ty nd
  refine ⟨v, p, _, _, _, _, rfl, upd_same, clsv_tys [.list, .tuple], ty, kitAny_tab K nd [.list, .tuple], _, rfl, ?_⟩
  have z := q p [V.ty (tyS .list), V.ty (tyS .tuple)] hp
  have e2 : ([Ty.list, Ty.tuple].any fun t => isTy t (sh1 v H)) = (isTy .list (sh1 v H) || isTy .tuple (sh1 v H)) := by simp
  rw [e2]; exact z
end
theorem nx_lem {t : TS} {D2 : Ends} {σ : L2.St} {H : Hp} (Pd : L2.St → Hp → Prop) (h1 : ∀ σ H, Pd σ H → D2.nx σ H) (h2 : (∀ σ H, Pd σ H → D2.nx σ H) → t D2 σ H) : t D2 σ H := h2 h1
theorem spoil_fn {P : Program} {w : World} {K : PySem.W.Frag} {mg : Str → Option Value} {base : Heap} {sc : Scope} {params : Arguments} {body : List Stmt} {f : Addr} {fd : FuncData} (F : SpFacts K mg sc params body f fd)
    {p1 p2 p3 p4 p5 p6 p7 p8 p9 p10 p11 p12 p13 p14 p15 p16 p17 p18 p19 p20 p21 p22 p23 p24 p25 p26 p27 p28 p29 p30 p31 p32 p33 p34 p35 p36 p37 p38 p39 p40 p41 p42 p43 p44 p45 : Pos} {k1 k2 k3 k4 : Nat} (hb : body = spoilB p1 p2 p3 p4 p5 p6 p7 p8 p9 p10 p11 p12 p13 p14 p15 p16 p17 p18 p19 p20 p21 p22 p23 p24 p25 p26 p27 p28 p29 p30 p31 p32 p33 p34 p35 p36 p37 p38 p39 p40 p41 p42 p43 p44 p45 k1 k2 k3 k4) (hline : (p41.endLine == p43.line) = true) (k : Nat) : ∀ n, FnG P w K mg base (L2.CX P w) (k + n + 1) f fd ["thing"] (spSpoil n)
  | 0 => by
    obtain ⟨oc, od, kV, doc, pm, an, cdv, ctv, osl, rfl, lk, hcd⟩ := F.ex
    subst hb
    refine fn_ofG lk hcd F.S (fun vs H Q E ⟨v, S, R, wt, e, _⟩ => by rw [e]; rfl) fun A outer s H vs Q E hr ⟨v, S, R, wt, e, hv, hk, hl, w0, mono, hq⟩ => ?_
    subst e
    have E1 : SpEnv (cxOf (L2.CX P w) P w K mg base ["thing", "key", "part"] "_law_spoilt" sc f cdv A outer s H E) := ⟨rfl, F.lt, F.lp, F.gi, F.gl, F.gt, F.gd, F.mi, F.ml, F.mt, F.md, rfl, passes_of rfl⟩
    refine ⟨_, pss_cons (ps_if E1.isDict pss_never pss_nil) (pss_cons (ps_if E1.isSeq pss_never pss_nil) (pss_one (ps_if E1.isList pss_never pss_nil))), ?_⟩
    have scal : ∀ t : Ty, t = .list ∨ t = .tuple ∨ t = .dict → ∀ H2, isTy t (sh1 v H2) = false := fun t ht H2 => by
      cases v <;> first | (exact hv.elim) | skip
      all_goals first | (rcases ht with rfl | rfl | rfl <;> rfl) | skip
      obtain ⟨i, _, e, _⟩ := hk 0 _ hv
      omega
    refine is1_run hk hv rfl ?_
    rw [scal .dict (.inr (.inr rfl))]
    refine if0 (is2_run hk w0 hv rfl fun p cs hp => ?_)
    rw [scal .list (.inl rfl), scal .tuple (.inr (.inl rfl))]
    have g := Gr.of (S := S) (R := R) (n := 0) (b := wt v) (Sub.to_upd (o := .tup cs) hp)
    refine if0 (is1_run (hk.gr w0 g) hv rfl ?_)
    rw [scal .list (.inl rfl)]
    exact if0 (hq _ g)
  | n + 1 => by
    have IH := spoil_fn (P := P) (w := w) (base := base) F hb hline k n
    obtain ⟨oc, od, kV, doc, pm, an, cdv, ctv, osl, rfl, lk, hcd⟩ := F.ex
    subst hb
    refine ⟨fun vs H Q E ⟨v, S, R, wt, e, _⟩ => by rw [e]; rfl, ?_⟩
    -- of a lesser rank, too
    have main : FnG P w K mg base (L2.CX P w) (k + (n + 1) + 1) f (PySem.W.fnOf "_law_spoilt" "_law_spoilt" params (spoilB p1 p2 p3 p4 p5 p6 p7 p8 p9 p10 p11 p12 p13 p14 p15 p16 p17 p18 p19 p20 p21 p22 p23 p24 p25 p26 p27 p28 p29 p30 p31 p32 p33 p34 p35 p36 p37 p38 p39 p40 p41 p42 p43 p44 p45 k1 k2 k3 k4) sc .none kV doc pm an cdv ctv) ["thing"] (fun vs H Q E => ∃ v S R wt, vs = [v] ∧ okv R (n + 1) v ∧ ¬ okv R n v ∧ OkH S R wt H ∧ OkL R H (wt v) ∧ wt late = 0 ∧ (∀ m a, R m a → R (m + 1) a) ∧ ∀ H', Gr S R (n + 1) (wt v) H H' → Q .non H') := by
      refine fn_ofG lk hcd F.S (fun vs H Q E ⟨v, S, R, wt, e, _⟩ => by rw [e]; rfl) fun A outer s H vs Q E hr ⟨v, S, R, wt, e, hv, hnv, hk, hl, w0, mono, hq⟩ => ?_
      subst e
      have E1 : SpEnv (cxOf (L2.CX P w) P w K mg base ["thing", "key", "part"] "_law_spoilt" sc f cdv A outer s H E) := ⟨rfl, F.lt, F.lp, F.gi, F.gl, F.gt, F.gd, F.mi, F.ml, F.mt, F.md, rfl, passes_of rfl⟩
      have tk : Takes (cxOf (L2.CX P w) P w K mg base ["thing", "key", "part"] "_law_spoilt" sc f cdv A outer s H E) (fun cls d _ H => E cls d H) := takes_of rfl rfl rfl rfl
      have gs : Gl (cxOf (L2.CX P w) P w K mg base ["thing", "key", "part"] "_law_spoilt" sc f cdv A outer s H E) "_law_spoilt" := F.gs
      have call := pe_callP (X := cxOf (L2.CX P w) P w K mg base ["thing", "key", "part"] "_law_spoilt" sc f cdv A outer s H E) (pos := p32) (p := p30) (ks := []) (E := WE fun cls d _ H => E cls d H) IH hr (x := "_law_spoilt") gs F.ms F.kp F.pl rfl F.pa (by decide) (fun σ => passAt tk σ) (pa_cons (E1.vp (p := p31)) pa_nil rfl) pk_nil rfl rfl (by decide) rfl (fun e => by cases e)
      have nd : (["thing", "key", "part"] : List Str).Nodup := by decide
      have pg : PG (cxOf (L2.CX P w) P w K mg base ["thing", "key", "part"] "_law_spoilt" sc f cdv A outer s H E) (.Name "part" p28) (gName 2) := pg_name nd rfl (.inl F.lp) (.inr F.lp)
      refine ⟨_, pss_cons (ps_if E1.isDict pss_never pss_nil) (pss_cons (ps_if E1.isSeq (pss_one (ps_for E1.pass rfl ((pi_list E1.v).or (pi_tup E1.v)) pg (pss_one (ps_expr call)))) pss_nil)
        (pss_one (ps_if E1.isList (pss_one (ps_expr (pe_bm PySem.F.plainAttrs_list PySem.F.slot_list_append PySem.F.type_list_append mt_append E1.v (pa_cons pe_str pa_nil) rfl rfl hline))) pss_nil))), ?_⟩
      cases v <;> first | exact absurd trivial hnv | exact hv.elim | skip
      rename_i a _
      obtain ⟨j, vs, ej, hat, hparts, hw⟩ := hk (n + 1) a hv
      have ej : n = j := by omega
      subst ej
      -- the thing itself stays while its parts are spoilt
      have stays : ∀ {b : Nat} {H' : Hp} {o : HO}, Gr S R n b H H' → H a = some o → H' a = some o := fun {b H' o} g h => by
        rcases g a o h with h | ⟨_, h, _⟩
        · exact h
        · exact absurd h hnv
      refine is1_run hk hv rfl ?_
      have e1 : isTy .dict (sh1 (.ref a) H) = false := by simp only [sh1]; split <;> rfl
      rw [e1]
      refine if0 (is2_run hk w0 hv rfl fun p cs hp => ?_)
      have e2 : (isTy .list (sh1 (.ref a) H) || isTy .tuple (sh1 (.ref a) H)) = true := by simp only [sh1]; split <;> rfl
      rw [e2]
      have g1 : Gr S R n 0 H (upd H p (.tup cs)) := Gr.of (Sub.to_upd hp)
      refine if1 ?_
      refine nx_lem (t := tFor _ _ _) (fun σ' H2 => (∃ x, σ' = [some (.ref a), none, x]) ∧ Gr S R n ((vs.map wt).sum) H H2) ?_ fun fin => ?_
      · -- behind the loop
        rintro σ' H2 ⟨⟨x, rfl⟩, g2⟩
        refine is1_run (hk.gr w0 g2) hv rfl ?_
        rcases hat with hat | ⟨hS, hat⟩
        · have e3 : isTy .list (sh1 (.ref a) H2) = false := by simp only [sh1, stays g2 hat]; rfl
          rw [e3]
          exact if0 (hq _ ((g2.up fun b => mono n b).more (by omega)))
        · have h2 := stays g2 hat
          have e3 : isTy .list (sh1 (.ref a) H2) = true := by simp only [sh1, h2]; rfl
          rw [e3]
          refine if1 ⟨_, rfl, .inl ⟨rfl, _, .of h2⟩, a, vs, late, rfl, rfl, h2, ?_, ?_⟩
          · have := hl (n + 1) a vs hv hat; omega
          · refine hq _ (((g2.up fun b => mono n b).trans (b' := 1) fun b o hb => ?_).more (by omega))
            by_cases e : b = a
            · subst e
              rw [h2] at hb
              cases hb
              exact .inr ⟨hS, hv, vs, 1, Nat.le_refl _, rfl, upd_same⟩
            · exact .inl (by rw [upd_ne e]; exact hb)
      · have turn : ∀ {J : It} {Y : Nat → Hp → V → Hp → Prop} (i : Nat) (x : V) (σ' : L2.St) (Hc : Hp), i < vs.length → vs[i]? = some x → ((∃ z, σ' = [some (V.ref a), none, z]) ∧ Gr S R n (((vs.take i).map wt).sum) H Hc) →
            spSpoil n [x] Hc (fun _ H2 => (∃ z, σ'.set 2 (some x) = [some (V.ref a), none, z]) ∧ Gr S R n (((vs.take (i + 1)).map wt).sum) H H2) (fun _ _ _ => True) := fun {J Y} i x σ' Hc hi hx ⟨⟨z, e⟩, g⟩ => by
          subst e
          have et : ((vs.take (i + 1)).map wt).sum = ((vs.take i).map wt).sum + wt x := by
            rw [List.take_add_one, hx, List.map_append, List.sum_append]; simp
          have le : ((vs.take (i + 1)).map wt).sum ≤ (vs.map wt).sum := by
            have := List.take_append_drop (i + 1) vs
            have h9 : (vs.map wt).sum = ((vs.take (i + 1)).map wt).sum + ((vs.drop (i + 1)).map wt).sum := by rw [← List.sum_append, ← List.map_append, this]
            omega
          refine ⟨x, S, R, wt, rfl, hparts x (List.mem_of_getElem? hx), hk.gr w0 g, ?_, w0, mono, fun H2 g2 => ⟨⟨some x, rfl⟩, by rw [et]; exact g.trans g2⟩⟩
          have l2 : OkL R H (((vs.take i).map wt).sum + wt x) := fun m b ws h1 h2 => by
            have := hl m b ws h1 h2; omega
          exact OkL.gr hk l2 g
        have step : ∀ (i : Nat) (x : V) (σ' : L2.St) (Hc : Hp) (D3 : Ends), i < vs.length → vs[i]? = some x → ((∃ z, σ' = [some (V.ref a), none, z]) ∧ Gr S R n (((vs.take i).map wt).sum) H Hc) →
            D3.nx = (fun σ2 H2 => (∃ z, σ2 = [some (V.ref a), none, z]) ∧ Gr S R n (((vs.take (i + 1)).map wt).sum) H H2) → gName 2 x σ' Hc fun σ2 H2 => tDrop (tCallP ["thing"] [] (spSpoil n) (WE fun cls d _ H => E cls d H) (tCons (tVar 2) tNil) tNil) D3 σ2 H2 := fun i x σ' Hc D3 hi hx h e3 => by
          have t1 := turn (J := ⟨fun _ _ => True, fun _ _ _ _ => True, fun _ _ => True⟩) (Y := fun _ _ _ _ => True) i x σ' Hc hi hx h
          obtain ⟨⟨z, e⟩, g⟩ := h
          subst e
          refine ⟨x, rfl, (by decide : permOk ["thing"] [] 1 0 = true), ?_⟩
          rw [perm_all (as := [x]) (ps := ["thing"]) rfl, e3]
          exact t1
        have start0 : (∃ z, L2.start ["thing", "key", "part"] [V.ref a] = [some (V.ref a), none, z]) ∧ Gr S R n (((vs.take 0).map wt).sum) H (upd H p (.tup cs)) := ⟨⟨none, rfl⟩, g1⟩
        rcases hat with hat | ⟨hS, hat⟩
        · refine Or.inr ⟨.ref a, rfl, a, rfl, ⟨vs, SqT.of (stays g1 hat)⟩, for_it walk_tup (Pv := fun i σ' H2 => (∃ z, σ' = [some (V.ref a), none, z]) ∧ Gr S R n (((vs.take i).map wt).sum) H H2) start0 (fun i σ' H2 _ h => SqT.of (stays h.2 hat)) (fun i x σ' Hc H' hi h hy => ?_) (fun σ' H2 h => fin σ' H2 (by rw [List.take_length] at h; exact h))⟩
          obtain ⟨rfl, hx⟩ := hy
          exact step i x σ' _ _ hi hx h rfl
        · refine Or.inl ⟨.ref a, rfl, a, rfl, ⟨vs, SqL.of (stays g1 hat)⟩, for_it walk_list (Pv := fun i σ' H2 => (∃ z, σ' = [some (V.ref a), none, z]) ∧ Gr S R n (((vs.take i).map wt).sum) H H2) start0 (fun i σ' H2 _ h => SqL.of (stays h.2 hat)) (fun i x σ' Hc H' hi h hy => ?_) (fun σ' H2 h => fin σ' H2 (by rw [List.take_length] at h; exact h))⟩
          obtain ⟨rfl, hx⟩ := hy
          exact step i x σ' _ _ hi hx h rfl
    intro A outer s H args us vs Q E hr he hbi hv hsp
    obtain ⟨v, S, R, wt, e, h1, h2, h3, h4, h5, h6⟩ := hsp
    by_cases hn : okv R n v
    · exact (IH.mono (by omega)).run hr he hbi hv ⟨v, S, R, wt, e, hn, h2, h3, h4, h5, fun H' g => h6 H' (g.up fun a => h5 n a)⟩
    · exact main.run hr he hbi hv ⟨v, S, R, wt, e, h1, hn, h2, h3, h4, h5, h6⟩
end Sd

/-! Sd30: the rule for what is spoilt. -/
namespace Sd
open PySem PySem.Spec PyProof.Rows L2
/-- the last region behind a spoiling: its tuples, and what the one ahead has -/
def cutG (G : Nat → Hp) (lv : Nat) : Hp := fun a => match G lv a with
  | some (.tup xs) => some (.tup xs)
  | some o => if (G (lv - 1) a).isSome then some o else none
  | none => none
theorem cutG_sub {G : Nat → Hp} {lv : Nat} : Sub (cutG G lv) (G lv) := fun a o h => by
  unfold cutG at h
  split at h
  · rename_i e; cases h; exact e
  · rename_i o' _ e
    split at h
    · cases h; exact e
    · cases h
  · cases h
theorem cutG_tup {G : Nat → Hp} {lv : Nat} {a : Addr} {xs : List V} (h : G lv a = some (.tup xs)) : cutG G lv a = some (.tup xs) := by
  unfold cutG; rw [h]
theorem cutG_low {G : Nat → Hp} {lv : Nat} (k : Gok G lv) : Sub (G (lv - 1)) (cutG G lv) := fun a o h => by
  have h2 := k.mono (lv - 1) lv (by omega) a o h
  unfold cutG
  rw [h2]
  cases o <;> first | rfl | (simp [h])
theorem cutG_inv {G : Nat → Hp} {lv : Nat} {a : Addr} {o : HO} (h : cutG G lv a = some o) : (∃ xs, o = .tup xs) ∨ G (lv - 1) a ≠ none := by
  unfold cutG at h
  split at h
  · rename_i xs e; cases h; exact .inl ⟨xs, rfl⟩
  · split at h
    · rename_i e; exact .inr (by rw [← Option.isSome_iff_ne_none]; exact e)
    · cases h
  · cases h
abbrev Dy.cut (y : Dy) (lv : Nat) : Dy := { y with G := fun n => if n < lv then y.G n else cutG y.G lv }
/-- data that does not reach the last region stays -/
theorem regm_cut {G : Nat → Hp} {lv : Nat} {f : Fl} (h1 : 1 ≤ lv) (k : Gok G lv) (hf : f.hit lv = false) : Sub (regm G lv f) (regm (fun n => if n < lv then G n else cutG G lv) lv f) := fun a o h => by
  obtain ⟨h0, h2⟩ := regm_out h
  have tp : ∀ xs, o = .tup xs → regm (fun n => if n < lv then G n else cutG G lv) lv f a = some o := fun xs e => by
    subst e
    exact regm_tup (by show (if lv < lv then _ else cutG G lv) a = _; rw [if_neg (by omega)]; exact cutG_tup h0)
  rcases h2 with ⟨xs, e⟩ | ⟨h2, h3⟩
  · exact tp xs e
  · have hf : f.lo > f.hi ∨ f.hi < lv := by
      unfold Fl.hit at hf
      simp only [Bool.and_eq_false_iff, decide_eq_false_iff_not] at hf
      omega
    rcases hf with hf | hf
    · exfalso
      rcases h2 with h2 | h2
      · omega
      · exact h3 ((k.mono f.hi (f.lo - 1) (by omega)).none h2)
    · have hin : G (lv - 1) a = some o := by
        cases e : G (lv - 1) a with
        | none => exact absurd ((k.mono f.hi (lv - 1) (by omega)).none e) h3
        | some u => have := k.mono (lv - 1) lv (by omega) a u e; rw [h0] at this; cases this; rfl
      refine regm_in (by show (if lv < lv then _ else cutG G lv) a = _; rw [if_neg (by omega)]; exact cutG_low k a o hin) ?_ ?_
      · rcases h2 with h2 | h2
        · exact .inl h2
        · by_cases hz : f.lo - 1 < lv
          · right; show (if f.lo - 1 < lv then G (f.lo - 1) else cutG G lv) a = none; rw [if_pos hz]; exact h2
          · exact absurd h2 (by rw [k.flat _ (by omega), h0]; exact fun z => by cases z)
      · show (if f.hi < lv then G f.hi else cutG G lv) a ≠ none
        rw [if_pos hf]; exact h3
mutual
/-- data are told by where they lie -/
theorem Rp.uniq {sx : List (Addr × Addr)} {G : Hp} : ∀ (d e : D) (v : V) (n m : Nat), spOk n d = true → spOk m e = true → Rp sx G d v → Rp sx G e v → d = e
  | .non, e, v, n, m, h, k, r, q => by cases e <;> cases n <;> cases m <;> simp_all [Rp, spOk]
  | .bl b, e, v, n, m, h, k, r, q => by cases e <;> cases n <;> cases m <;> simp_all [Rp, spOk]
  | .int b, e, v, n, m, h, k, r, q => by cases e <;> cases n <;> cases m <;> simp_all [Rp, spOk]
  | .str b, e, v, n, m, h, k, r, q => by cases e <;> cases n <;> cases m <;> simp_all [Rp, spOk]
  | .lst xs, e, v, 0, m, h, k, r, q => by simp [spOk] at h
  | .tup xs, e, v, 0, m, h, k, r, q => by simp [spOk] at h
  | .lst xs, e, v, n + 1, m, h, k, r, q => by
    simp only [Rp] at r
    obtain ⟨a, vs, rfl, h1, h2⟩ := r
    cases e with
    | lst ys =>
      cases m with
      | zero => simp [spOk] at k
      | succ m =>
        simp only [Rp] at q
        obtain ⟨b, ws, e, h3, h4⟩ := q
        cases e
        rw [h1] at h3; cases h3
        rw [Rps.uniq xs ys vs n m (by simpa [spOk] using h) (by simpa [spOk] using k) h2 h4]
    | tup ys =>
      simp only [Rp] at q
      obtain ⟨b, ws, e, h3, h4⟩ := q
      cases e
      rw [h1] at h3; cases h3
    | stm g => cases m <;> simp [spOk] at k
    | obj g => cases m <;> simp [spOk] at k
    | dic a b => cases m <;> simp [spOk] at k
    | _ => simp [Rp] at q
  | .tup xs, e, v, n + 1, m, h, k, r, q => by
    simp only [Rp] at r
    obtain ⟨a, vs, rfl, h1, h2⟩ := r
    cases e with
    | tup ys =>
      cases m with
      | zero => simp [spOk] at k
      | succ m =>
        simp only [Rp] at q
        obtain ⟨b, ws, e, h3, h4⟩ := q
        cases e
        rw [h1] at h3; cases h3
        rw [Rps.uniq xs ys vs n m (by simpa [spOk] using h) (by simpa [spOk] using k) h2 h4]
    | lst ys =>
      simp only [Rp] at q
      obtain ⟨b, ws, e, h3, h4⟩ := q
      cases e
      rw [h1] at h3; cases h3
    | stm g => cases m <;> simp [spOk] at k
    | obj g => cases m <;> simp [spOk] at k
    | dic a b => cases m <;> simp [spOk] at k
    | _ => simp [Rp] at q
  | .dic a b, e, v, n, m, h, k, r, q => by cases n <;> simp [spOk] at h
  | .stm a, e, v, n, m, h, k, r, q => by cases n <;> simp [spOk] at h
  | .obj a, e, v, n, m, h, k, r, q => by cases n <;> simp [spOk] at h
theorem Rps.uniq {sx : List (Addr × Addr)} {G : Hp} : ∀ (ds es : List D) (vs : List V) (n m : Nat), spOks n ds = true → spOks m es = true → Rps sx G ds vs → Rps sx G es vs → ds = es
  | [], es, vs, n, m, h, k, r, q => by
    simp only [Rps] at r
    subst r
    cases es with
    | nil => rfl
    | cons e es => obtain ⟨_, _, z, _⟩ := q.inv; cases z
  | d :: ds, es, vs, n, m, h, k, r, q => by
    obtain ⟨v, vr, rfl, r1, r2⟩ := r.inv
    cases es with
    | nil => simp only [Rps] at q; cases q
    | cons e es =>
      obtain ⟨w, wr, z, q1, q2⟩ := q.inv
      cases z
      simp only [spOks, Bool.and_eq_true] at h k
      rw [Rp.uniq d e v n m h.1 k.1 r1 q1, Rps.uniq ds es vr n m h.2 k.2 r2 q2]
end
/-- the state behind a spoiling: only lists that stand in the last region alone have changed -/
theorem SR.spoil {y : Dy} {lv : Nat} {c : C} {σ : L2.St} {H H' : Hp} (s : SR y lv c σ H) (keep : ∀ a o, H a = some o → ¬ ((∃ vs, y.G lv a = some (.lst vs)) ∧ y.G (lv - 1) a = none) → H' a = some o) (live : ∀ a, H a ≠ none → H' a ≠ none) :
    SR (y.cut lv) lv { c with r := c.r.map (spoilS lv) } σ H' := by
  have e : (y.cut lv).G lv = cutG y.G lv := by show (if lv < lv then y.G lv else cutG y.G lv) = _; rw [if_neg (by omega)]
  have e0 : (y.cut lv).G 0 = y.G 0 := by show (if 0 < lv then y.G 0 else cutG y.G lv) = _; rw [if_pos (show 0 < lv from s.pos)]
  have off : ∀ {a : Addr} {o : HO}, H a = some o → y.G lv a = none → H' a = some o := fun {a o} h hn => keep a o h fun ⟨⟨vs, z⟩, _⟩ => by rw [hn] at z; cases z
  have kk : Gok (y.cut lv).G lv := by
    refine ⟨fun m n h => ?_, fun n h => ?_⟩
    · show Sub (if m < lv then y.G m else cutG y.G lv) (if n < lv then y.G n else cutG y.G lv)
      split <;> split
      · exact s.g.mono m n h
      · exact (s.g.mono m (lv - 1) (by omega)).trans (cutG_low s.g)
      · omega
      · exact Sub.refl _
    · show (if n < lv then y.G n else cutG y.G lv) = _
      rw [if_neg (by omega), e]
  have slot : ∀ (i : Nat) sl, (c.r.map (spoilS lv))[i]? = some sl → ∃ s0, c.r[i]? = some s0 ∧ sl = spoilS lv s0 := fun i sl h => by
    rw [List.getElem?_map] at h
    cases h' : c.r[i]? with
    | none => rw [h'] at h; cases h
    | some s0 => rw [h'] at h; cases h; exact ⟨s0, rfl, rfl⟩
  refine ⟨s.pos, s.zb, kk, ?_, fun a o h => ?_, fun a h => live a (s.old a h), fun a o h => ?_, fun i sl hi => ?_, fun i j p h2 h3 => ?_, ⟨s.str.len, fun g q t h1 h2 => ?_, fun q hq => ?_, s.str.nd⟩, by simpa using s.len⟩
  · rw [e]
    intro a o h
    refine keep a o (s.top _ _ (cutG_sub _ _ h)) fun ⟨⟨vs, z⟩, hn⟩ => ?_
    have hG := cutG_sub _ _ h
    rcases cutG_inv h with ⟨xs, rfl⟩ | h'
    · rw [hG] at z; cases z
    · exact h' hn
  · refine keep a o (s.prot a o h) fun ⟨⟨vs, z⟩, hn⟩ => ?_
    rcases s.fresh a _ z with z' | z'
    · rw [(s.g.mono 0 (lv - 1) (by omega)).none hn] at z'; cases z'
    · exact s.zb a (by have h : y.Z a = some o := h; rw [h]; exact fun z => by cases z) z'
  · rw [e] at h; rw [e0]; exact s.fresh a o (cutG_sub _ _ h)
  · obtain ⟨s0, h2, rfl⟩ := slot i sl hi
    have q := s.slots i s0 h2
    cases s0 with
    | un => trivial
    | sh f d =>
      simp only [spoilS]
      split
      · trivial
      · rename_i hf
        obtain ⟨v, e1, e2⟩ := q
        exact ⟨v, e1, Rp.mono (Pre.refl _) (regm_cut s.pos s.g (by simpa using hf)) _ _ e2⟩
    | ow f d =>
      simp only [spoilS]
      split
      · trivial
      · rename_i hf
        obtain ⟨p, e1, o1, o2, o3, o4, o5⟩ := q
        refine ⟨p, e1, by rw [e]; exact Sub.none cutG_sub o1, o2, o3, o4, ?_⟩
        cases d <;> first | exact o5.elim | (obtain ⟨vs, h1', h2'⟩ := o5; exact ⟨vs, off h1' o1, Rps.mono (Pre.refl _) (regm_cut s.pos s.g (by simpa using hf)) _ _ h2'⟩)
  · have bk : ∀ {i}, OwnAt { c with r := c.r.map (spoilS lv) } σ i p → OwnAt c σ i p := fun {i} ⟨⟨f, d, h⟩, h'⟩ => by
      obtain ⟨s0, h2, e2⟩ := slot i _ h
      cases s0 <;> first | (cases e2; done) | (simp only [spoilS] at e2; split at e2 <;> first | (cases e2; done) | exact ⟨⟨_, _, h2⟩, h'⟩)
    exact s.inj i j p (bk h2) (bk h3)
  · obtain ⟨a1, a2⟩ := s.str.at_ g q t h1 h2
    obtain ⟨b1, b2, _, _⟩ := s.str.off q (List.mem_of_getElem? h1)
    exact ⟨off a1 b1, off a2 b2⟩
  · obtain ⟨b1, b2, b3, b4⟩ := s.str.off q hq
    exact ⟨by rw [e]; exact Sub.none cutG_sub b1, by rw [e]; exact Sub.none cutG_sub b2, b3, b4⟩
end Sd

/-! Sd31: the rule for what is spoilt. -/
namespace Sd
open PySem PySem.Spec PyProof.Rows L2
section
variable {sx : List (Addr × Addr)} {G : Hp}
/-- the addresses that data of d reach, by rank -/
def rkR (sx : List (Addr × Addr)) (G : Hp) (b : Nat) : Nat → Addr → Prop := fun m a => ∃ d, spOk m d = true ∧ nodes d ≤ b ∧ Rp sx G d (.ref a)
open Classical in
noncomputable def wtR (sx : List (Addr × Addr)) (G : Hp) : V → Nat := fun v => match v with
  | .ref a => if h : ∃ d, (∃ m, spOk m d = true) ∧ Rp sx G d (.ref a) then nodes h.choose else 0
  | _ => 0
open Classical in
theorem wtR_eq {d : D} {m : Nat} {a : Addr} (h : spOk m d = true) (r : Rp sx G d (.ref a)) : wtR sx G (.ref a) = nodes d := by
  have hx : ∃ d, (∃ m, spOk m d = true) ∧ Rp sx G d (.ref a) := ⟨d, ⟨m, h⟩, r⟩
  show (if h : ∃ d, (∃ m, spOk m d = true) ∧ Rp sx G d (.ref a) then nodes h.choose else 0) = _
  rw [dif_pos hx]
  obtain ⟨⟨m', h'⟩, r'⟩ := hx.choose_spec
  rw [Rp.uniq _ d _ m' m h' h r' r]
theorem wtR_le {d : D} {m : Nat} {v : V} (h : spOk m d = true) (r : Rp sx G d v) : wtR sx G v ≤ nodes d := by
  cases v <;> first | exact Nat.zero_le _ | exact Nat.le_of_eq (wtR_eq h r)
theorem wtR_sum : ∀ {ds : List D} {vs : List V} {m : Nat}, spOks m ds = true → Rps sx G ds vs → (vs.map (wtR sx G)).sum ≤ nodess ds
  | [], vs, m, _, r => by simp only [Rps] at r; subst r; simp
  | d :: ds, vs, m, h, r => by
    obtain ⟨v, vr, rfl, r1, r2⟩ := r.inv
    simp only [spOks, Bool.and_eq_true] at h
    have a := wtR_le h.1 r1
    have b := wtR_sum h.2 r2
    simp only [List.map_cons, List.sum_cons, nodess]
    omega
theorem nodes_mem : ∀ {ds : List D} {d : D}, d ∈ ds → nodes d ≤ nodess ds
  | d :: ds, e, h => by
    rcases List.mem_cons.mp h with rfl | h
    · simp only [nodess]; omega
    · have := nodes_mem h
      simp only [nodess]; omega
theorem nodes_len : ∀ ds : List D, ds.length ≤ nodess ds
  | [] => Nat.zero_le _
  | d :: ds => by
    have a := nodes_len ds
    have b : 1 ≤ nodes d := by cases d <;> simp [nodes]
    simp only [List.length_cons, nodess]; omega
theorem spOks_mem : ∀ {ds : List D} {d : D} {m : Nat}, spOks m ds = true → d ∈ ds → spOk m d = true
  | d :: ds, e, m, h, hm => by
    simp only [spOks, Bool.and_eq_true] at h
    rcases List.mem_cons.mp hm with rfl | hm
    · exact h.1
    · exact spOks_mem h.2 hm
theorem okv_of {d : D} {m b : Nat} {v : V} (h : spOk m d = true) (hb : nodes d ≤ b) (r : Rp sx G d v) : okv (rkR sx G b) m v := by
  cases d with
  | non => simp only [Rp] at r; subst r; trivial
  | bl b => simp only [Rp] at r; subst r; trivial
  | int b => simp only [Rp] at r; subst r; trivial
  | str b => simp only [Rp] at r; subst r; trivial
  | lst xs => have r' := r; simp only [Rp] at r'; obtain ⟨a, vs, rfl, _⟩ := r'; exact ⟨_, h, hb, r⟩
  | tup xs => have r' := r; simp only [Rp] at r'; obtain ⟨a, vs, rfl, _⟩ := r'; exact ⟨_, h, hb, r⟩
  | dic a b => simp only [Rp] at r
  | stm g => cases m <;> simp [spOk] at h
  | obj g => cases m <;> simp [spOk] at h
mutual
theorem spOk_up : ∀ (d : D) (m : Nat), spOk m d = true → spOk (m + 1) d = true
  | .non, _, _ => rfl
  | .bl _, _, _ => rfl
  | .int _, _, _ => rfl
  | .str _, _, _ => rfl
  | .lst xs, 0, h => by simp [spOk] at h
  | .tup xs, 0, h => by simp [spOk] at h
  | .lst xs, m + 1, h => by simp only [spOk] at h ⊢; exact spOks_up xs m h
  | .tup xs, m + 1, h => by simp only [spOk] at h ⊢; exact spOks_up xs m h
  | .dic _ _, m, h => by cases m <;> simp [spOk] at h
  | .stm _, m, h => by cases m <;> simp [spOk] at h
  | .obj _, m, h => by cases m <;> simp [spOk] at h
theorem spOks_up : ∀ (ds : List D) (m : Nat), spOks m ds = true → spOks (m + 1) ds = true
  | [], _, _ => rfl
  | d :: ds, m, h => by
    simp only [spOks, Bool.and_eq_true] at h ⊢
    exact ⟨spOk_up d m h.1, spOks_up ds m h.2⟩
end
theorem okH_of {S : Addr → Prop} {H : Hp} {b : Nat} (up : Sub G H) (hS : ∀ a vs, G a = some (.lst vs) → S a) : OkH S (rkR sx G b) (wtR sx G) H := fun m a ⟨d, h1, h2, h3⟩ => by
  have mem : ∀ {xs : List D} {vs : List V} {k : Nat}, spOks k xs = true → nodess xs ≤ b → Rps sx G xs vs → ∀ u ∈ vs, okv (rkR sx G b) k u := fun {xs vs k} q1 q2 q3 u hu => by
    obtain ⟨i, hi⟩ := List.getElem?_of_mem hu
    obtain ⟨e, e1, e2⟩ := q3.get' hi
    have hm := List.mem_of_getElem? e1
    exact okv_of (spOks_mem q1 hm) (Nat.le_trans (nodes_mem hm) q2) e2
  have hw := wtR_eq h1 h3
  cases d with
  | lst xs =>
    cases m with
    | zero => simp [spOk] at h1
    | succ m =>
      simp only [spOk] at h1
      simp only [nodes] at h2 hw
      simp only [Rp] at h3
      obtain ⟨a', vs, e, q1, q2⟩ := h3
      cases e
      refine ⟨m, vs, rfl, .inr ⟨hS _ _ q1, up _ _ q1⟩, mem h1 (by omega) q2, ?_⟩
      rw [hw]; have := wtR_sum h1 q2; omega
  | tup xs =>
    cases m with
    | zero => simp [spOk] at h1
    | succ m =>
      simp only [spOk] at h1
      simp only [nodes] at h2 hw
      simp only [Rp] at h3
      obtain ⟨a', vs, e, q1, q2⟩ := h3
      cases e
      refine ⟨m, vs, rfl, .inl (up _ _ q1), mem h1 (by omega) q2, ?_⟩
      rw [hw]; have := wtR_sum h1 q2; omega
  | stm g => cases m <;> simp [spOk] at h1
  | obj g => cases m <;> simp [spOk] at h1
  | dic a b => simp only [Rp] at h3
  | _ => simp [Rp] at h3
end
end Sd

/-! Sd31b: the rule for what is spoilt, in a text. -/
namespace Sd
open PySem PySem.Spec PyProof.Rows L2
theorem spoils_ok {P : Program} {w : World} {K : PySem.W.Frag} {mg : Str → Option Value} {base : Heap} {ct : Ct} {sc : Scope} {params : Arguments} {body : List Stmt} {f : Addr} {fd : FuncData} (F : SpFacts K mg sc params body f fd)
    {p1 p2 p3 p4 p5 p6 p7 p8 p9 p10 p11 p12 p13 p14 p15 p16 p17 p18 p19 p20 p21 p22 p23 p24 p25 p26 p27 p28 p29 p30 p31 p32 p33 p34 p35 p36 p37 p38 p39 p40 p41 p42 p43 p44 p45 : Pos} {k1 k2 k3 k4 : Nat} (hb : body = spoilB p1 p2 p3 p4 p5 p6 p7 p8 p9 p10 p11 p12 p13 p14 p15 p16 p17 p18 p19 p20 p21 p22 p23 p24 p25 p26 p27 p28 p29 p30 p31 p32 p33 p34 p35 p36 p37 p38 p39 p40 p41 p42 p43 p44 p45 k1 k2 k3 k4) (hline : (p41.endLine == p43.line) = true) (k : Nat) : Spoils P w K mg base ct (k + 21) := by
  intro cl sg X h1 h2 h3 h4 h5 hr hc W tk hg lv x i p pos pos2 hstar hx
  subst h1; subst h2; subst h3; subst h4; subst h5
  have hd : fd.defaults = .none := by obtain ⟨_, _, _, _, _, _, _, _, _, rfl, _⟩ := F.ex; exact rfl
  have hpa : fd.params.args.map (·.arg) = (["thing"] : List Str) := by obtain ⟨_, _, _, _, _, _, _, _, _, rfl, _⟩ := F.ex; exact F.pa
  have hpl : PlainPs fd.params := by obtain ⟨_, _, _, _, _, _, _, _, _, rfl, _⟩ := F.ex; exact F.pl
  have call := pe_callP (X := X) (pos := pos) (p := p) (ks := []) (E := WE W) (spoil_fn (P := X.prog) (w := X.w) (base := X.base) F hb hline k 20) hr (x := "_law_spoilt") hg F.ms F.kp hpl hd hpa (by decide) (fun σ => passAt tk σ) (pa_cons hx pa_nil (notStar hstar)) pk_nil rfl rfl (by decide) (by simp [hstar]) (fun e => by cases e)
  refine (ps_expr call rfl).conseq fun D σ H ⟨y, c, s, h⟩ => ?_
  simp only [exS, if_pos] at h
  refine toZ s ((goS h).imp (fun _ _ z => z) fun fd2 c1 q y1 v H1 x1 s1 r1 => ?_)
  obtain ⟨fl, d⟩ := fd2
  dsimp only at q r1
  split at q
  case isFalse => exact q.elim
  rename_i hcond
  simp only [Bool.and_eq_true, decide_eq_true_eq] at hcond
  obtain ⟨⟨c1', c2⟩, c3⟩ := hcond
  refine ⟨(by decide : permOk ["thing"] [] 1 0 = true), ?_⟩
  rw [perm_all (as := [v]) (ps := ["thing"]) rfl]
  have hpos := s1.pos
  have up : Sub (regm y1.G lv fl) H1 := regm_sub.trans s1.top
  have hw : wtR y1.sx (regm y1.G lv fl) v ≤ nodes d := wtR_le c2 r1
  refine ⟨v, fun a => (∃ vs, y1.G lv a = some (.lst vs)) ∧ y1.G (lv - 1) a = none, rkR y1.sx (regm y1.G lv fl) (nodes d), wtR y1.sx (regm y1.G lv fl), rfl, okv_of c2 (Nat.le_refl _) r1, okH_of up fun a vs ha => ?_, fun m a vs ⟨d', e1, e2, e3⟩ ha => ?_, rfl, fun m a ⟨d', e1, e2, e3⟩ => ⟨d', spOk_up d' m e1, e2, e3⟩, fun H' g => ?_⟩
  · obtain ⟨h0, h1⟩ := regm_out ha
    refine ⟨⟨vs, h0⟩, ?_⟩
    rcases h1 with ⟨xs, e⟩ | ⟨h1, _⟩
    · cases e
    · rcases h1 with h1 | h1
      · omega
      · exact (s1.g.mono (lv - 1) (fl.lo - 1) (by omega)).none h1
  · have hl : vs.length + nodes d ≤ SZ := by
      cases d' with
      | lst xs =>
        simp only [Rp] at e3
        obtain ⟨b, ws, eb, q1, q2⟩ := e3
        cases eb
        rw [up _ _ q1] at ha
        cases ha
        have := q2.length
        have := nodes_len xs
        simp only [nodes] at e2
        omega
      | tup xs =>
        simp only [Rp] at e3
        obtain ⟨b, ws, eb, q1, q2⟩ := e3
        cases eb
        rw [up _ _ q1] at ha
        cases ha
      | stm g => cases m <;> simp [spOk] at e1
      | obj g => cases m <;> simp [spOk] at e1
      | dic a b => simp only [Rp] at e3
      | _ => simp [Rp] at e3
    have : sizeLine = SZ := sizeLine_eq
    omega
  · have s2 := s1.spoil (H' := H') (fun a o ha hn => by
      rcases g a o ha with g | ⟨g, _⟩
      · exact g
      · exact absurd g hn) (fun a ha => by
      obtain ⟨o, ho⟩ := Option.ne_none_iff_exists'.mp ha
      rcases g a o ho with g | ⟨_, _, vs, j, _, _, g⟩
      · rw [g]; exact fun z => by cases z
      · rw [g]; exact fun z => by cases z)
    refine q (y1.cut lv) σ H' ⟨x1.z, x1.b, fun n hn => ?_, x1.s, fun z => by cases z⟩ s2
    show (if n < lv then y1.G n else cutG y1.G lv) = y.G n
    rw [if_pos hn]; exact x1.g.low n hn
end Sd

/-! Sd32: from what the program's top leaves to the law's end. -/
namespace Sd
open PySem PySem.Spec PyProof.Rows L2
/-- where a def stands -/
structure At (K : PySem.W.Frag) (mg : Str → Option Value) (x : Str) (st : Stmt) : Prop where
  ex : ∃ (f : Addr) (oc : Value) (od : Option Addr) (kV doc pm : Value) (an : Option Addr) (cdv ct : Value) (osl : Array (Option Value)),
    mg x = some (.ref f) ∧ PySem.W.keepIn K (.ref f) = true ∧ K.lookup f = some ⟨oc, od, .func (PySem.W.fnOf x x (defArgs st) (defBody st) (defScope st) .none kV doc pm an cdv ct), osl⟩ ∧ PySem.W.codeIn K cdv x = true
theorem at_mk {K : PySem.W.Frag} {mg : Str → Option Value} {h : Heap} {x : Str} {st : Stmt} (X : K.In h) (G : h.Ns mainGlobals mg) {f : Addr} {oc : Value} {od : Option Addr} {kV doc pm : Value} {an : Option Addr} {cdv ct : Value} {osl : Array (Option Value)}
    (a : PySem.W.nsIn K mainGlobals x = some (some (.ref f))) (l : K.lookup f = some ⟨oc, od, .func (PySem.W.fnOf x x (defArgs st) (defBody st) (defScope st) .none kV doc pm an cdv ct), osl⟩) (c : PySem.W.codeIn K cdv x = true) (k : PySem.W.keepIn K (.ref f) = true) : At K mg x st :=
  ⟨⟨f, oc, od, kV, doc, pm, an, cdv, ct, osl, PySem.W.mg_of X G a, k, l, c⟩⟩
/-- a def's text -/
structure TxtD (us : List Str) (Pr : Pg) (x : Str) (st : Stmt) (a : Ann) (ps : List Str) : Prop where
  S : FnScope a.N ps (defScope st)
  pl : PlainPs (defArgs st)
  hps : (defArgs st).args.map (·.arg) = ps
  nd : ps.Nodup
  hP : Pr.lookup x = some ⟨ps, a.N, cL us a 200 (defScope st) (defBody st)⟩
section
variable {P : Program} {w : World} {K : PySem.W.Frag} {mg : Str → Option Value} {base : Heap} {us : List Str} {ct : Ct} {Pr : Pg} {x : Str} {st : Stmt} {a : Ann} {ps : List Str}
theorem At.row (h : At K mg x st) (t : TxtD us Pr x st a ps) : DefRow K mg us Pr x := by
  obtain ⟨f, oc, od, kV, doc, pm, an, cdv, ctv, osl, h1, h2, h3, h4⟩ := h.ex
  exact ⟨a, ps, _, _, _, f, _, ⟨⟨oc, od, kV, doc, pm, an, cdv, ctv, osl, rfl, h3, h4⟩, t.S⟩, h1, h2, t.pl, t.hps, t.nd, t.hP⟩
theorem At.draw (h : At K mg nDraw st) (hno : Pr.lookup nDraw = none) (S : FnScope drawN ["stream", "many"] (defScope st)) (loc : ∀ x ∈ drawN, (defScope st).names.lookup x = some .local) (ga : (defScope st).names.lookup ("abs" : Str) = some .globalImplicit) (gi : (defScope st).names.lookup ("int" : Str) = some .globalImplicit) (ma : mg "abs" = none) (mi : mg "int" = none) (pl : PlainPs (defArgs st)) (hps : (defArgs st).args.map (·.arg) = (["stream", "many"] : List Str))
    {p1 p2 p3 p4 p5 p6 p7 p8 p9 p10 p11 p12 p13 p14 p15 p16 p17 p18 p19 p20 p21 p22 p23 p24 p25 p26 p27 p28 p29 p30 p31 p32 p33 p34 p35 p36 p37 p38 p39 p40 p41 p42 p43 p44 p45 p46 p47 p48 p49 p50 p51 p52 p53 p54 p55 p56 p57 p58 p59 p60 p61 p62 p63 p64 p65 p66 p67 p68 p69 p70 p71 p72 p73 p74 p75 p76 p77 p78 p79 p80 p81 p82 p83 p84 p85 p86 p87 p88 p89 p90 p91 p92 p93 p94 p95 p96 p97 p98 p99 p100 p101 p102 p103 p104 p105 p106 p107 p108 p109 p110 p111 p112 p113 p114 p115 p116 p117 p118 p119 p120 p121 p122 p123 p124 p125 : Pos} {k1 k2 k3 k4 k5 k6 k7 k8 k9 k10 k11 k12 k13 k14 k15 k16 k17 k18 k19 k20 k21 k22 k23 k24 k25 k26 k27 k28 k29 k30 k31 k32 k33 k34 : Nat} (hb : defBody st = drawB p1 p2 p3 p4 p5 p6 p7 p8 p9 p10 p11 p12 p13 p14 p15 p16 p17 p18 p19 p20 p21 p22 p23 p24 p25 p26 p27 p28 p29 p30 p31 p32 p33 p34 p35 p36 p37 p38 p39 p40 p41 p42 p43 p44 p45 p46 p47 p48 p49 p50 p51 p52 p53 p54 p55 p56 p57 p58 p59 p60 p61 p62 p63 p64 p65 p66 p67 p68 p69 p70 p71 p72 p73 p74 p75 p76 p77 p78 p79 p80 p81 p82 p83 p84 p85 p86 p87 p88 p89 p90 p91 p92 p93 p94 p95 p96 p97 p98 p99 p100 p101 p102 p103 p104 p105 p106 p107 p108 p109 p110 p111 p112 p113 p114 p115 p116 p117 p118 p119 p120 p121 p122 p123 p124 p125 k1 k2 k3 k4 k5 k6 k7 k8 k9 k10 k11 k12 k13 k14 k15 k16 k17 k18 k19 k20 k21 k22 k23 k24 k25 k26 k27 k28 k29 k30 k31 k32 k33 k34) (hline : (p26.endLine == p28.line) = true) : DrawRow P w K mg base ct Pr := by
  obtain ⟨f, oc, od, kV, doc, pm, an, cdv, ctv, osl, h1, h2, h3, h4⟩ := h.ex
  exact ⟨hno, f, _, h1, h2, pl, rfl, hps, fun k => draw_fn ⟨⟨oc, od, kV, doc, pm, an, cdv, ctv, osl, rfl, h3, h4⟩, S, loc, ga, gi, ma, mi⟩ hb hline⟩
/-- facts of the text of `_law_spoilt` -/
structure SpTxt (mg : Str → Option Value) (sc : Scope) (params : Arguments) : Prop where
  S : FnScope (["thing", "key", "part"] : List Str) ["thing"] sc
  lt : sc.names.lookup ("thing" : Str) = some .local
  lp : sc.names.lookup ("part" : Str) = some .local
  gi : sc.names.lookup ("isinstance" : Str) = some .globalImplicit
  gl : sc.names.lookup ("list" : Str) = some .globalImplicit
  gt : sc.names.lookup ("tuple" : Str) = some .globalImplicit
  gd : sc.names.lookup ("dict" : Str) = some .globalImplicit
  gs : sc.names.lookup ("_law_spoilt" : Str) = some .globalImplicit
  pl : PlainPs params
  pa : params.args.map (·.arg) = (["thing"] : List Str)
theorem At.spoils (h : At K mg "_law_spoilt" st) (blt : ∀ x ∈ bnames, mg x = none) (t : SpTxt mg (defScope st) (defArgs st))
    {p1 p2 p3 p4 p5 p6 p7 p8 p9 p10 p11 p12 p13 p14 p15 p16 p17 p18 p19 p20 p21 p22 p23 p24 p25 p26 p27 p28 p29 p30 p31 p32 p33 p34 p35 p36 p37 p38 p39 p40 p41 p42 p43 p44 p45 : Pos} {k1 k2 k3 k4 : Nat} (hb : defBody st = spoilB p1 p2 p3 p4 p5 p6 p7 p8 p9 p10 p11 p12 p13 p14 p15 p16 p17 p18 p19 p20 p21 p22 p23 p24 p25 p26 p27 p28 p29 p30 p31 p32 p33 p34 p35 p36 p37 p38 p39 p40 p41 p42 p43 p44 p45 k1 k2 k3 k4) (hline : (p41.endLine == p43.line) = true) : Spoils P w K mg base ct 21 := by
  obtain ⟨f, oc, od, kV, doc, pm, an, cdv, ctv, osl, h1, h2, h3, h4⟩ := h.ex
  have z := spoils_ok (P := P) (w := w) (base := base) (ct := ct) (K := K) (mg := mg) (f := f) (fd := PySem.W.fnOf "_law_spoilt" "_law_spoilt" (defArgs st) (defBody st) (defScope st) .none kV doc pm an cdv ctv) (sc := defScope st) (params := defArgs st) (body := defBody st)
    ⟨⟨oc, od, kV, doc, pm, an, cdv, ctv, osl, rfl, h3, h4⟩, t.S, t.lt, t.lp, t.gi, t.gl, t.gt, t.gd, t.gs, blt _ (by decide), blt _ (by decide), blt _ (by decide), blt _ (by decide), h1, h2, t.pl, t.pa⟩ hb hline 0
  exact z
theorem At.law {fL : Addr} {sS : Stmt} {Nr : List Str} {rest : List Stmt} {q1 q2 q3 q4 q5 : Pos} {k : Nat} {cl : Caller} {sg : Sig} (h : At K mg "law" st) (hS : At K mg "_law_stream" sS) (blt : ∀ x ∈ bnames, mg x = none) (hmg : mg "law" = some (.ref fL))
    (tS : FnScope ["script"] ["script"] (defScope sS)) (plS : PlainPs (defArgs sS)) (hpsS : (defArgs sS).args.map (·.arg) = (["script"] : List Str)) (slS : (defScope sS).names.lookup ("script" : Str) = some .local) (sgS : (defScope sS).names.lookup ("list" : Str) = some .globalImplicit)
    {p1 p2 p3 p4 p5 p6 p7 p8 : Pos} {k1 k2 k3 : Nat} (hb : defBody sS = streamB p1 p2 p3 p4 p5 p6 p7 p8 k1 k2 k3)
    (S : FnScope a.N ["script"] (defScope st)) (pl : PlainPs (defArgs st)) (hps : (defArgs st).args.map (·.arg) = (["script"] : List Str)) (hbl : defBody st = (.Assign [.Name "stream" q1] (.Call (.Name "_law_stream" q2) [.Name "script" q3] [] q4) q5 :: rest)) (hN : a.N = ("script" : Str) :: ("stream" : Str) :: Nr)
    (g1 : (defScope st).names.lookup ("_law_stream" : Str) = some .globalImplicit) (l1 : isSto (defScope st) "script" = true) (l2 : isSto (defScope st) "stream" = true)
    (M : ∀ base : Heap, K.In base → base.Ns mainGlobals mg → ModEnv P w K mg base us ct cl sg (k + 1))
    (law : ∀ ns : List Int, ns.length ≤ 63 → ∃ f c', exL cl sg 1 false (cL us a 200 (defScope st) rest) ⟨lawR Nr.length, [⟨ns, 0, 0, 19⟩]⟩ = .rt f (.bl true) c') :
    ∃ fd : FuncData, (∀ (s : Shared) (u : Value), BindsTo s fd ⟨[u], []⟩ [("script", u)]) ∧ ∀ base : Heap, K.In base → base.Ns mainGlobals mg → FnG P w K mg base (L2.CX P w) (k + 2) fL fd ["script"] (spLaw K) := by
  obtain ⟨f, oc, od, kV, doc, pm, an, cdv, ctv, osl, h1, h2, h3, h4⟩ := h.ex
  rw [hmg] at h1
  cases h1
  obtain ⟨f', oc', od', kV', doc', pm', an', cdv', ctv', osl', g1', g2', g3', g4'⟩ := hS.ex
  rw [hbl] at h3
  refine ⟨PySem.W.fnOf "law" "law" (defArgs st) (.Assign [.Name "stream" q1] (.Call (.Name "_law_stream" q2) [.Name "script" q3] [] q4) q5 :: rest) (defScope st) .none kV doc pm an cdv ctv, fun s u => .of_eq ?_, fun base hK hG => law_fn (M base hK hG) ⟨⟨oc, od, kV, doc, pm, an, cdv, ctv, osl, rfl, h3, h4⟩, S⟩ hN ⟨f', _, g1', g2', plS, rfl, hpsS, stream_fn ⟨⟨oc', od', kV', doc', pm', an', cdv', ctv', osl', rfl, g3', g4'⟩, tS⟩ slS sgS (blt _ (by decide)) hb⟩ g1 l1 l2 law⟩
  exact bind_plain (fd := PySem.W.fnOf "law" "law" (defArgs st) (.Assign [.Name "stream" q1] (.Call (.Name "_law_stream" q2) [.Name "script" q3] [] q4) q5 :: rest) (defScope st) .none kV doc pm an cdv ctv) (ks := []) (us := [u]) (ws := []) pl rfl (ps := ["script"]) hps (by decide) rfl
end
end Sd

/-! Sd33: a law that makes a stream anew at each turn. -/
namespace Sd
open PySem PySem.Spec PyProof.Rows L2
/-- the slots behind a turn's first row -/
def law2R (a : Addr) (k : Int) (n : Nat) : List Slot := .sh Fl.top (.obj a) :: .sh Fl.top (.int k) :: .sh Fl.top (.stm 0) :: List.replicate n .un
abbrev law2B (q1 q2 q3 q4 q5 q6 q7 q8 q9 q10 q11 q12 q13 q14 q15 q16 q17 q18 : Pos) (k1 k2 : Nat) (N : Nat) (rest : List Stmt) : List Stmt :=
  [.For (.Name "turn" q1) (.Call (.Name "range" q2) [.Constant (.int (N : Int)) k1 q3] [] q4)
    (.Assign [.Name "stream" q5] (.Call (.Name "_law_stream" q6) [.BinOp (.Call (.Name "list" q7) [.Name "script" q8] [] q9) .Add (.List [.Name "turn" q10] q11) q12] [] q13) q14 :: rest) [] q15,
   .Return (some (.Constant (.bool true) k2 q16)) q17]
theorem sq_sub {K : PySem.W.Frag} {H H' : Hp} {a : Addr} {xs : List V} (k : ∀ o, H a = some o → H' a = some o) (h : SqL K H a xs) : SqL K H' a xs := by
  rcases h with h | h
  · rcases h with h | ⟨o, h⟩
    · exact .inl (.inl (k _ h))
    · exact .inl (.inr ⟨o, k _ h⟩)
  · exact .inr h
theorem law_fn2 {P : Program} {w : World} {K : PySem.W.Frag} {mg : Str → Option Value} {base : Heap} {us : List Str} {ct : Ct} {cl : Caller} {sg : Sig} {k : Nat} {a : Ann} {params : Arguments} {rest : List Stmt} {sc : Scope} {f : Addr} {fd : FuncData} {Nr : List Str} {q1 q2 q3 q4 q5 q6 q7 q8 q9 q10 q11 q12 q13 q14 q15 q16 q17 q18 : Pos} {k1 k2 N : Nat}
    (M : ModEnv P w K mg base us ct cl sg k) (F : FnFacts K "law" a ["script"] params (law2B q1 q2 q3 q4 q5 q6 q7 q8 q9 q10 q11 q12 q13 q14 q15 q16 q17 q18 k1 k2 N rest) sc f fd) (hN : a.N = ("script" : Str) :: ("turn" : Str) :: ("stream" : Str) :: Nr) (hn : N ≤ 1000)
    (hst : ∃ fa fdS, mg "_law_stream" = some (.ref fa) ∧ PySem.W.keepIn K (.ref fa) = true ∧ PlainPs fdS.params ∧ fdS.defaults = .none ∧ fdS.params.args.map (·.arg) = (["script"] : List Str) ∧ FnG P w K mg base (L2.CX P w) k fa fdS ["script"] (spStream K))
    (g1 : sc.names.lookup ("_law_stream" : Str) = some .globalImplicit) (g2 : sc.names.lookup ("range" : Str) = some .globalImplicit) (g3 : sc.names.lookup ("list" : Str) = some .globalImplicit) (l1 : isSto sc "script" = true) (l2 : isSto sc "stream" = true) (l3 : isSto sc "turn" = true)
    (law : ∀ (ad : Addr) (ns : List Int) (t : Int), ns.length ≤ 64 → 0 ≤ t → t < N → ∃ c', exL cl sg 1 false (cL us a 200 sc rest) ⟨law2R ad t Nr.length, [⟨ns, 0, 0, 19⟩]⟩ = .nx c' ∧ c'.r[0]? = some (.sh Fl.top (.obj ad)) ∧ c'.r.length = Nr.length + 3) :
    FnG P w K mg base (L2.CX P w) (k + 1) f fd ["script"] (spLaw K) := by
  obtain ⟨oc, od, kV, doc, pm, an, cdv, ctv, osl, rfl, lk, hcd⟩ := F.ex
  refine fn_ofG lk hcd F.S (fun vs H Q E ⟨a, ns, e, _⟩ => by rw [e]; rfl) fun A outer s H vs Q E hr ⟨ad, ns, e, hs, hlen, hq⟩ => ?_
  subst e
  have tk : Takes (cxOf (L2.CX P w) P w K mg base a.N "law" sc f cdv A outer s H E) (fun cls d _ H => E cls d H) := takes_of rfl rfl rfl rfl
  have env : DefEnv (cxOf (L2.CX P w) P w K mg base a.N "law" sc f cdv A outer s H E) us a ct cl sg k (fun cls d _ H => E cls d H) sc :=
    ⟨⟨rfl, F.S.nd, rfl, hr, M.blt, fun x hx => ⟨M.cals x hx⟩, M.nodbg⟩, rfl, F.S.kind, ⟨rfl, F.S.nd, fun z hz => ⟨isSto_loc hz, .inl rfl⟩⟩, passes_of rfl, tk, M.spoil _ rfl rfl rfl rfl rfl hr rfl _ tk⟩
  obtain ⟨fa, fdS, s1, s2, s3, s4, s5, s6⟩ := hst
  have n0 : (cxOf (L2.CX P w) P w K mg base a.N "law" sc f cdv A outer s H E).N[0]? = some ("script" : Str) := by show a.N[0]? = _; rw [hN]; rfl
  have n1 : (cxOf (L2.CX P w) P w K mg base a.N "law" sc f cdv A outer s H E).N[1]? = some ("turn" : Str) := by show a.N[1]? = _; rw [hN]; rfl
  have n2 : (cxOf (L2.CX P w) P w K mg base a.N "law" sc f cdv A outer s H E).N[2]? = some ("stream" : Str) := by show a.N[2]? = _; rw [hN]; rfl
  have vs : PE (cxOf (L2.CX P w) P w K mg base a.N "law" sc f cdv A outer s H E) (.Name "script" q8) (tVar 0) := pe_var n0 (isSto_vis l1)
  have vt : PE (cxOf (L2.CX P w) P w K mg base a.N "law" sc f cdv A outer s H E) (.Name "turn" q10) (tVar 1) := pe_var n1 (isSto_vis l3)
  have g1' : Gl (cxOf (L2.CX P w) P w K mg base a.N "law" sc f cdv A outer s H E) "_law_stream" := g1
  have g2' : Gl (cxOf (L2.CX P w) P w K mg base a.N "law" sc f cdv A outer s H E) "range" := g2
  have g3' : Gl (cxOf (L2.CX P w) P w K mg base a.N "law" sc f cdv A outer s H E) "list" := g3
  have mr : mg "range" = none := M.blt _ (by decide)
  have ml : mg "list" = none := M.blt _ (by decide)
  have call := pe_callP (X := cxOf (L2.CX P w) P w K mg base a.N "law" sc f cdv A outer s H E) (pos := q13) (p := q6) (ks := []) (E := WE fun cls d _ H => E cls d H) s6 hr g1' s1 s2 s3 s4 s5 (by decide) (fun σ => passAt tk σ)
    (pa_cons (pe_op (pos := q12) op_cat (pe_callTy (pos := q9) (p := q7) call_list_of g3' ml boot_list (pa_cons vs pa_nil)) (pe_lst (pos := q11) (pa_cons vt pa_nil))) pa_nil rfl) pk_nil rfl rfl (by decide) rfl (fun e => by cases e)
  refine ⟨_, pss_cons (ps_for (passes_of rfl) rfl (pi_range1 g2' mr (pa_cons pe_int pa_nil)) (pg_name F.S.nd n1 (isSto_loc l3) (.inl rfl)) (pss_cons (ps_set F.S.nd n2 (isSto_loc l2) call rfl (.inl rfl)) ((st_all env 200 1 false).2 rest))) (pss_one (ps_ret pe_bl)), ?_⟩
  have st0 : (L2.start a.N [V.ref ad])[0]? = some (some (.ref ad)) := start_get rfl
  have hlenN : (L2.start a.N [V.ref ad]).length = Nr.length + 3 := by
    unfold L2.start
    have : 1 ≤ a.N.length := by rw [hN]; simp
    simp [hN]
  refine ⟨(N : Int), rfl, by omega, by omega, ?_⟩
  rw [Int.toNat_natCast]
  refine for_range (lo := 0) (n := N) (fun _ σ' H' => σ'.length = Nr.length + 3 ∧ σ'[0]? = some (some (.ref ad)) ∧ SqL K H' ad (ns.map V.int)) ⟨hlenN, st0, hs⟩ ?_ ?_
  · rintro i σ' H' hi ⟨hl, h0, hsq⟩
    rw [Int.zero_add]
    show _
    -- stream = _law_stream(list(script) + [turn])
    have hg0 : (σ'.set 1 (some (V.int (i : Int))))[0]? = some (some (.ref ad)) := by rw [List.getElem?_set_ne (by decide)]; exact h0
    have hg1 : (σ'.set 1 (some (V.int (i : Int))))[1]? = some (some (.int (i : Int))) := List.getElem?_set_self (by omega)
    refine ⟨.ref ad, hg0, ad, ns.map V.int, rfl, .inl hsq, fun l hl1 => ?_⟩
    refine ⟨.int (i : Int), hg1, (by show 1 ≤ _; rw [sizeLine_eq]; decide), fun l2 hl2 => ?_⟩
    have nl : l ≠ l2 := fun z => by rw [← z, upd_same] at hl2; cases hl2
    refine ⟨l, l2, ns.map V.int, [.int (i : Int)], rfl, rfl, by rw [upd_ne nl, upd_same], upd_same, by rw [List.length_map, sizeLine_eq]; simp; omega, fun l3 hl3 => ?_⟩
    refine ⟨(by decide : permOk ["script"] [] 1 0 = true), ?_⟩
    rw [perm_all (as := [V.ref l3]) (ps := ["script"]) rfl]
    refine ⟨l3, _, rfl, .of upd_same, fun q p hq1 hqp hp1 => ?_⟩
    have em : ns.map V.int ++ [V.int (i : Int)] = (ns ++ [(i : Int)]).map V.int := by simp
    rw [em]
    rw [em] at hq1 hp1
    obtain ⟨c', he, hc0, hcl⟩ := law ad (ns ++ [(i : Int)]) (i : Int) (by simp; omega) (by omega) (by omega)
    have up : ∀ a o, H' a = some o → (upd (upd (upd H' l (.lst (ns.map V.int))) l2 (.lst [.int (i : Int)])) l3 (.lst ((ns ++ [(i : Int)]).map V.int))) a = some o := fun a o h => by
      have h1 : (upd H' l (.lst (ns.map V.int))) a = some o := by rw [upd_ne (ne_of_none h hl1)]; exact h
      have h2 : (upd (upd H' l (.lst (ns.map V.int))) l2 (.lst [.int (i : Int)])) a = some o := by rw [upd_ne (ne_of_none h1 hl2)]; exact h1
      rw [upd_ne (ne_of_none h2 hl3)]; exact h2
    generalize upd (upd (upd H' l (.lst (ns.map V.int))) l2 (.lst [.int (i : Int)])) l3 (.lst ((ns ++ [(i : Int)]).map V.int)) = Hb at hq1 hp1 up ⊢
    have up2 : ∀ a o, H' a = some o → (upd (upd Hb q (.lst ((ns ++ [(i : Int)]).map V.int))) p (.lst [.ref q, .int 0, .int 0, .int 19])) a = some o ∧ a ≠ p ∧ a ≠ q := fun a o h => by
      have h1 := up a o h
      have e1 := ne_of_none h1 hq1
      have e2 := ne_of_none h1 hp1
      exact ⟨by rw [upd_ne e2, upd_ne e1]; exact h1, e2, e1⟩
    generalize hHx : upd (upd Hb q (.lst ((ns ++ [(i : Int)]).map V.int))) p (.lst [.ref q, .int 0, .int 0, .int 19]) = Hx at up2
    have hxp : Hx p = some (.lst [.ref q, .int 0, .int 0, .int 19]) := by rw [← hHx, upd_same]
    have hxq : Hx q = some (.lst ((ns ++ [(i : Int)]).map V.int)) := by rw [← hHx, upd_ne hqp, upd_same]
    show tL ct cl sg _ 1 false (cL us a 200 sc rest) _ ((σ'.set 1 (some (V.int (i : Int)))).set 2 (some (.ref p))) Hx
    have offp : offH [(p, q)] Hx p = none := (offH_str (q := (p, q)) (by simp)).1
    have offq : offH [(p, q)] Hx q = none := (offH_str (q := (p, q)) (by simp)).2
    refine ⟨⟨offH [(p, q)] Hx, Hx, fun _ _ => none, [(p, q)]⟩, ⟨law2R ad (i : Int) Nr.length, [⟨ns ++ [(i : Int)], 0, 0, 19⟩]⟩, ?_, ?_⟩
    · refine ⟨Nat.le_refl _, fun a h => ?_, ⟨fun _ _ _ => Sub.refl _, fun _ _ => rfl⟩, fun a o h => (by cases h), fun a o h => (offH_some.mp h).2, fun a h => h, fun a o h => (by cases h), fun j sl hj => ?_, fun i j r ⟨⟨f, d, h⟩, _⟩ => ?_, ⟨rfl, fun g pq t e1 e2 => ?_, fun r hr => ?_, ?_⟩, ?_⟩
      · obtain ⟨o, ho⟩ := Option.ne_none_iff_exists'.mp h
        show Hx a ≠ none
        rw [(offH_some.mp ho).2]; exact (fun z => by cases z)
      · have hj : (law2R ad (i : Int) Nr.length)[j]? = some sl := hj
        unfold law2R at hj
        match j, hj with
        | 0, hj =>
          cases hj
          refine ⟨.ref ad, getD_some.mpr ?_, by simp [Rp]⟩
          rw [List.getElem?_set_ne (by decide)]; exact hg0
        | 1, hj =>
          cases hj
          refine ⟨.int (i : Int), getD_some.mpr ?_, by simp [Rp]⟩
          rw [List.getElem?_set_ne (by decide)]; exact hg1
        | 2, hj =>
          cases hj
          refine ⟨.ref p, getD_set_self (by simp; omega), ?_⟩
          simp only [Rp]
          exact ⟨(p, q), rfl, rfl⟩
        | j + 3, hj =>
          have hj : (List.replicate Nr.length Slot.un)[j]? = some sl := hj
          rw [List.getElem?_replicate] at hj
          split at hj
          · cases hj; trivial
          · cases hj
      · have h : (law2R ad _ Nr.length)[i]? = some (.ow f d) := h
        unfold law2R at h
        match i, h with
        | 0, h => cases h
        | 1, h => cases h
        | 2, h => cases h
        | i + 3, h =>
          have h : (List.replicate Nr.length Slot.un)[i]? = some (.ow f d) := h
          rw [List.getElem?_replicate] at h
          split at h <;> cases h
      · match g, e1, e2 with
        | 0, e1, e2 =>
          cases e1; cases e2
          exact ⟨hxp, hxq⟩
        | g + 1, e1, _ => simp at e1
      · simp only [List.mem_singleton] at hr
        subst hr
        exact ⟨rfl, rfl, offp, offq⟩
      · simp [Ne.symm hqp]
      · show (law2R ad (i : Int) Nr.length).length = ((σ'.set 1 (some (V.int (i : Int)))).set 2 (some (.ref p))).length
        rw [List.length_set, List.length_set, hl]
        simp [law2R]
    · rw [he]
      intro y' σ2 H2 x s2
      obtain ⟨v, e1, e2⟩ := s2.slots 0 _ hc0
      simp only [Rp] at e2
      subst e2
      refine ⟨by rw [← s2.len]; exact hcl, getD_some.mp e1, sq_sub (fun o ho => ?_) hsq⟩
      obtain ⟨a1, a2, a3⟩ := up2 ad o ho
      refine s2.prot ad o ?_
      rw [x.z]
      exact offH_some.mpr ⟨fun r hr => by simp only [List.mem_singleton] at hr; subst hr; exact ⟨a2, a3⟩, a1⟩
  · rintro σ' H' _
    exact hq H'
theorem At.law2 {P : Program} {w : World} {K : PySem.W.Frag} {mg : Str → Option Value} {us : List Str} {ct : Ct} {st : Stmt} {a : Ann} {fL : Addr} {sS : Stmt} {Nr : List Str} {rest : List Stmt} {q1 q2 q3 q4 q5 q6 q7 q8 q9 q10 q11 q12 q13 q14 q15 q16 q17 q18 : Pos} {k1 k2 N : Nat} {k : Nat} {cl : Caller} {sg : Sig} (h : At K mg "law" st) (hS : At K mg "_law_stream" sS) (blt : ∀ x ∈ bnames, mg x = none) (hmg : mg "law" = some (.ref fL))
    (tS : FnScope ["script"] ["script"] (defScope sS)) (plS : PlainPs (defArgs sS)) (hpsS : (defArgs sS).args.map (·.arg) = (["script"] : List Str)) (slS : (defScope sS).names.lookup ("script" : Str) = some .local) (sgS : (defScope sS).names.lookup ("list" : Str) = some .globalImplicit)
    {p1 p2 p3 p4 p5 p6 p7 p8 : Pos} {j1 j2 j3 : Nat} (hb : defBody sS = streamB p1 p2 p3 p4 p5 p6 p7 p8 j1 j2 j3)
    (S : FnScope a.N ["script"] (defScope st)) (pl : PlainPs (defArgs st)) (hps : (defArgs st).args.map (·.arg) = (["script"] : List Str)) (hbl : defBody st = law2B q1 q2 q3 q4 q5 q6 q7 q8 q9 q10 q11 q12 q13 q14 q15 q16 q17 q18 k1 k2 N rest) (hN : a.N = ("script" : Str) :: ("turn" : Str) :: ("stream" : Str) :: Nr) (hn : N ≤ 1000)
    (g1 : (defScope st).names.lookup ("_law_stream" : Str) = some .globalImplicit) (g2 : (defScope st).names.lookup ("range" : Str) = some .globalImplicit) (g3 : (defScope st).names.lookup ("list" : Str) = some .globalImplicit) (l1 : isSto (defScope st) "script" = true) (l2 : isSto (defScope st) "stream" = true) (l3 : isSto (defScope st) "turn" = true)
    (M : ∀ base : Heap, K.In base → base.Ns mainGlobals mg → ModEnv P w K mg base us ct cl sg (k + 1))
    (law : ∀ (ad : Addr) (ns : List Int) (t : Int), ns.length ≤ 64 → 0 ≤ t → t < N → ∃ c', exL cl sg 1 false (cL us a 200 (defScope st) rest) ⟨law2R ad t Nr.length, [⟨ns, 0, 0, 19⟩]⟩ = .nx c' ∧ c'.r[0]? = some (.sh Fl.top (.obj ad)) ∧ c'.r.length = Nr.length + 3) :
    ∃ fd : FuncData, (∀ (s : Shared) (u : Value), BindsTo s fd ⟨[u], []⟩ [("script", u)]) ∧ ∀ base : Heap, K.In base → base.Ns mainGlobals mg → FnG P w K mg base (L2.CX P w) (k + 2) fL fd ["script"] (spLaw K) := by
  obtain ⟨f, oc, od, kV, doc, pm, an, cdv, ctv, osl, h1, h2, h3, h4⟩ := h.ex
  rw [hmg] at h1
  cases h1
  obtain ⟨f', oc', od', kV', doc', pm', an', cdv', ctv', osl', g1', g2', g3', g4'⟩ := hS.ex
  rw [hbl] at h3
  refine ⟨PySem.W.fnOf "law" "law" (defArgs st) (law2B q1 q2 q3 q4 q5 q6 q7 q8 q9 q10 q11 q12 q13 q14 q15 q16 q17 q18 k1 k2 N rest) (defScope st) .none kV doc pm an cdv ctv, fun s u => .of_eq ?_, fun base hK hG => law_fn2 (M base hK hG) ⟨⟨oc, od, kV, doc, pm, an, cdv, ctv, osl, rfl, h3, h4⟩, S⟩ hN hn ⟨f', _, g1', g2', plS, rfl, hpsS, stream_fn ⟨⟨oc', od', kV', doc', pm', an', cdv', ctv', osl', rfl, g3', g4'⟩, tS⟩ slS sgS (blt _ (by decide)) hb⟩ g1 g2 g3 l1 l2 l3 law⟩
  exact bind_plain (fd := PySem.W.fnOf "law" "law" (defArgs st) (law2B q1 q2 q3 q4 q5 q6 q7 q8 q9 q10 q11 q12 q13 q14 q15 q16 q17 q18 k1 k2 N rest) (defScope st) .none kV doc pm an cdv ctv) (ks := []) (us := [u]) (ws := []) pl rfl (ps := ["script"]) hps (by decide) rfl
end Sd

namespace Lk76
open PySem Sd
def i_is_list : List IS := [
    (.ret (.isa (.var 0) [.list, .tuple]))]
def i_is_whole : List IS := [
    (.ret (.and (.isa (.var 0) [.int]) (.not (.isa (.var 0) [.bool]))))]
def i_is_number : List IS := [
    (.ret (.and (.call "is_whole" [(.var 0)] [] []) (.cmp .ge (.var 0) (.int (0)))))]
def i_is_index : List IS := [
    (.ret (.and (.call "is_number" [(.var 0)] [] []) (.cmp .lt (.var 0) (.var 1))))]
def i_check_bottom : List IS := [
    (.ite (.or (.not (.call "is_whole" [(.var 0)] [] [])) (.cmp .lt (.var 0) (.int (1)))) [.never] [])]
def i_check_points : List IS := [
    (.expr (.call "check_bottom" [(.var 0)] [] [])),
    (.ite (.or (.not (.call "is_list" [(.var 1)] [] [])) (.cmp .eq (.blt .len [(.var 1)]) (.int (0)))) [.never] []),
    (.asg 2 false (.lc (.var 3) [3, 4] false (.enm (.var 1) []) [(.not (.call "is_index" [(.var 4), (.var 0)] [] []))])),
    (.ite (.cmp .ne (.var 2) (.lst [])) [.never] [])]
def i_check_many : List IS := [
    (.ite (.or (.not (.call "is_whole" [(.var 0)] [] [])) (.cmp .lt (.var 0) (.int (1)))) [.never] [])]
def i_first_clash : List IS := [
    (.asg 3 false (.lc (.op2 .fdiv (.op2 .mul (.var 4) (.var 2)) (.var 0)) [4] true (.e (.slc (.var 1) [] [(.var 2)])) [])),
    (.for [5] true (.rng [(.var 2)]) [(.for [6] true (.rng [(.op2 .add (.var 5) (.int (1))), (.var 2)]) [(.ite (.cmp .eq (.ix (.var 3) (.var 5)) (.ix (.var 3) (.var 6))) [(.ret (.tup [(.var 5), (.var 6)]))] [])])]),
    (.ret .non)]
def i_beginning_fault : List IS := [
    (.expr (.call "check_points" [(.var 0), (.var 1)] [] [])),
    (.for [2] true (.rng [(.int (1)), (.op2 .add (.blt .len [(.var 1)]) (.int (1)))]) [(.asg 3 false (.call "first_clash" [(.var 0), (.var 1), (.var 2)] [] [])), (.ite (.notN (.var 3)) [(.ret (.tup [(.var 2), (.ix (.var 3) (.int (0))), (.ix (.var 3) (.int (1)))]))] [])]),
    (.ret .non)]
def i_fair_line : List IS := [
    (.expr (.call "check_bottom" [(.var 0)] [] [])),
    (.expr (.call "check_many" [(.var 1)] [] [])),
    (.parO [2, 3] [(true, (.lst [])), (false, (.int (0)))]),
    (.while (.cmp .lt (.blt .len [(.var 2)]) (.var 1)) [(.ite (.cmp .eq (.var 3) (.var 0)) [(.ite (.cmp .eq (.var 2) (.lst [])) [(.ret .non)] []), (.asg 3 false (.op2 .add (.mth .pop 2 []) (.int (1))))] [(.ite (.isN (.call "first_clash" [(.var 0), (.lst [(.star (.var 2)), (.var 3)]), (.op2 .add (.blt .len [(.var 2)]) (.int (1)))] [] [])) [(.expr (.mth .append 2 [(.var 3)])), (.asg 3 false (.int (0)))] [(.asg 3 false (.op2 .add (.var 3) (.int (1))))])])]),
    (.ret (.var 2))]
def i__law_pick : List IS := [
    (.ret (.ix (.var 1) (.call "_law_draw" [(.var 0), (.blt .len [(.var 1)])] [] [])))]
def i__law_same : List IS := [
    (.ite (.isa (.var 1) [.list, .tuple]) [(.ite (.or (.cmp .ne (.isa (.var 0) [.list]) (.isa (.var 1) [.list])) (.cmp .ne (.isa (.var 0) [.tuple]) (.isa (.var 1) [.tuple]))) [(.ret (.bl false))] []), (.ret (.and (.cmp .eq (.blt .len [(.var 0)]) (.blt .len [(.var 1)])) (.blt .all [(.lc (.call "_law_same" [(.var 2), (.var 3)] [] []) [2, 3] false (.zip (.var 0) (.var 1)) [])])))] []),
    (.ite (.isa (.var 1) [.dict]) [(.ret (.and (.isa (.var 0) [.dict]) (.call "_law_same" [(.blt .list [.never]), (.blt .list [.never])] [] [])))] []),
    (.ite (.or (.isa (.var 1) [.bool]) (.isa (.var 0) [.bool])) [(.ret (.and (.isa (.var 1) [.bool]) (.and (.isa (.var 0) [.bool]) (.cmp .eq (.var 0) (.var 1)))))] []),
    (.ite (.or (.isN (.var 1)) (.isN (.var 0))) [(.ret (.and (.isN (.var 1)) (.isN (.var 0))))] []),
    (.ite (.or (.cmp .ne (.isa (.var 1) [.int]) (.isa (.var 0) [.int])) (.cmp .ne (.isa (.var 1) [.str]) (.isa (.var 0) [.str]))) [(.ret (.bl false))] []),
    (.ret (.and (.not (.isa (.var 0) [.list, .tuple, .dict])) (.cmp .eq (.var 0) (.var 1))))]
def i__law_loose : List IS := [
    (.ite (.isa (.var 1) [.list, .tuple]) [(.asg 2 false (.lc (.call "_law_loose" [(.var 0), (.var 3)] [] []) [3] true (.e (.var 1)) [])), (.ret (.ite (.cmp .eq (.call "_law_draw" [(.var 0), (.int (2))] [] []) (.int (0))) (.var 2) (.blt .tuple [(.var 2)])))] []),
    (.ret (.var 1))]
def i__law_clash : List IS := [
    (.for [3] true (.rng [(.var 2)]) [(.for [4] true (.rng [(.op2 .add (.var 3) (.int (1))), (.var 2)]) [(.ite (.cmp .eq (.op2 .fdiv (.op2 .mul (.ix (.var 1) (.var 3)) (.var 2)) (.var 0)) (.op2 .fdiv (.op2 .mul (.ix (.var 1) (.var 4)) (.var 2)) (.var 0))) [(.ret (.tup [(.var 3), (.var 4)]))] [])])]),
    (.ret .non)]
def i__law_beginning_fault : List IS := [
    (.for [2] true (.rng [(.int (1)), (.op2 .add (.blt .len [(.var 1)]) (.int (1)))]) [(.asg 3 false (.call "_law_clash" [(.var 0), (.var 1), (.var 2)] [] [])), (.ite (.notN (.var 3)) [(.ret (.tup [(.var 2), (.ix (.var 3) (.int (0))), (.ix (.var 3) (.int (1)))]))] [])]),
    (.ret .non)]
def i__law_line : List IS := [
    (.asg 2 true (.lst [(.lst [])])),
    (.while (.cmp .ne (.var 2) (.lst [])) [(.asg 3 false (.mth .pop 2 [])), (.ite (.cmp .eq (.blt .len [(.var 3)]) (.var 1)) [(.ret (.var 3))] []), (.for [4] true (.rng [(.op2 .sub (.var 0) (.int (1))), (.neg (.int (1))), (.neg (.int (1)))]) [(.ite (.isN (.call "_law_clash" [(.var 0), (.op2 .add (.var 3) (.lst [(.var 4)])), (.op2 .add (.blt .len [(.var 3)]) (.int (1)))] [] [])) [(.expr (.mth .append 2 [(.op2 .add (.var 3) (.lst [(.var 4)]))]))] [])])]),
    (.ret .non)]
def lawI : List IS := [
    (.par [3, 4] [(.op2 .add (.int (1)) (.call "_law_draw" [(.var 2), (.call "_law_pick" [(.var 2), (.lst [(.int (3)), (.int (8)), (.int (30))])] [] [])] [] [])), (.op2 .add (.int (1)) (.call "_law_draw" [(.var 2), (.int (8))] [] []))]),
    (.asg 5 false (.call "_law_line" [(.var 3), (.var 4)] [] [])),
    (.scope [(.asg 6 false (.lst [(.call "fair_line" [(.var 3), (.var 4)] [] []), (.call "fair_line" [] ["many", "bottom"] [(.var 4), (.var 3)])])), (.ite (.not (.call "_law_same" [(.var 6), (.lst [(.var 5), (.var 5)])] [] [])) [(.ret (.bl false))] []), (.ite (.notN (.var 5)) [(.spoil (.var 6)), (.ite (.not (.call "_law_same" [(.lst [(.call "fair_line" [(.var 3), (.var 4)] [] []), (.call "beginning_fault" [(.var 3), (.blt .list [(.var 5)])] [] [])]), (.lst [(.var 5), .non])] [] [])) [(.ret (.bl false))] [])] []), (.for [7] true (.rng [(.int (5))]) [(.asg 8 true (.lc (.call "_law_draw" [(.var 2), (.var 3)] [] []) [9] true (.rng [(.op2 .add (.int (1)) (.call "_law_draw" [(.var 2), (.int (8))] [] []))]) [])), (.ite (.and (.notN (.var 5)) (.cmp .lt (.var 7) (.int (3)))) [(.asg 8 true (.blt .list [(.var 5)])), (.setIx 8 (.call "_law_draw" [(.var 2), (.var 4)] [] []) (.call "_law_draw" [(.var 2), (.var 3)] [] []))] []), (.par [10, 11] [(.call "_law_loose" [(.var 2), (.var 8)] [] []), (.call "_law_beginning_fault" [(.var 3), (.var 8)] [] [])]), (.parO [12, 13] [(false, (.blt .repr [(.var 10)])), (true, (.lst [(.call "beginning_fault" [(.var 3), (.var 10)] [] [])]))]), (.expr (.mth .append 13 [(.call "beginning_fault" [] ["points", "bottom"] [(.blt .list [(.var 8)]), (.var 3)])])), (.ite (.or (.not (.call "_law_same" [(.var 13), (.lst [(.var 11), (.var 11)])] [] [])) (.cmp .ne (.blt .repr [(.var 10)]) (.var 12))) [(.ret (.bl false))] [])])])]
def Pr : Pg := [("is_list", ⟨["thing"], ["thing"], i_is_list⟩), ("is_whole", ⟨["thing"], ["thing"], i_is_whole⟩), ("is_number", ⟨["thing"], ["thing"], i_is_number⟩), ("is_index", ⟨["thing", "many"], ["thing", "many"], i_is_index⟩), ("check_bottom", ⟨["bottom"], ["bottom"], i_check_bottom⟩), ("check_points", ⟨["bottom", "points"], ["bottom", "points", "wrong", "index", "point"], i_check_points⟩), ("check_many", ⟨["many"], ["many"], i_check_many⟩), ("first_clash", ⟨["bottom", "points", "many"], ["bottom", "points", "many", "parts", "point", "one", "other"], i_first_clash⟩), ("beginning_fault", ⟨["bottom", "points"], ["bottom", "points", "many", "pair"], i_beginning_fault⟩), ("fair_line", ⟨["bottom", "many"], ["bottom", "many", "way", "here"], i_fair_line⟩), ("_law_pick", ⟨["stream", "things"], ["stream", "things"], i__law_pick⟩), ("_law_same", ⟨["found", "due"], ["found", "due", "mine", "theirs"], i__law_same⟩), ("_law_loose", ⟨["stream", "thing"], ["stream", "thing", "some", "one"], i__law_loose⟩), ("_law_clash", ⟨["bottom", "points", "many"], ["bottom", "points", "many", "one", "other"], i__law_clash⟩), ("_law_beginning_fault", ⟨["bottom", "points"], ["bottom", "points", "many", "pair"], i__law_beginning_fault⟩), ("_law_line", ⟨["bottom", "many"], ["bottom", "many", "ways", "way", "point"], i__law_line⟩)]
theorem l_is_list : List.lookup ("is_list" : Str) (Pr : List (Str × Fd)) = some ⟨["thing"], ["thing"], i_is_list⟩ := rfl
theorem s_is_list : sgOf Pr "is_list" = (["thing"] : List Str) := rfl
theorem l_is_whole : List.lookup ("is_whole" : Str) (Pr : List (Str × Fd)) = some ⟨["thing"], ["thing"], i_is_whole⟩ := rfl
theorem s_is_whole : sgOf Pr "is_whole" = (["thing"] : List Str) := rfl
theorem l_is_number : List.lookup ("is_number" : Str) (Pr : List (Str × Fd)) = some ⟨["thing"], ["thing"], i_is_number⟩ := rfl
theorem s_is_number : sgOf Pr "is_number" = (["thing"] : List Str) := rfl
theorem l_is_index : List.lookup ("is_index" : Str) (Pr : List (Str × Fd)) = some ⟨["thing", "many"], ["thing", "many"], i_is_index⟩ := rfl
theorem s_is_index : sgOf Pr "is_index" = (["thing", "many"] : List Str) := rfl
theorem l_check_bottom : List.lookup ("check_bottom" : Str) (Pr : List (Str × Fd)) = some ⟨["bottom"], ["bottom"], i_check_bottom⟩ := rfl
theorem s_check_bottom : sgOf Pr "check_bottom" = (["bottom"] : List Str) := rfl
theorem l_check_points : List.lookup ("check_points" : Str) (Pr : List (Str × Fd)) = some ⟨["bottom", "points"], ["bottom", "points", "wrong", "index", "point"], i_check_points⟩ := rfl
theorem s_check_points : sgOf Pr "check_points" = (["bottom", "points"] : List Str) := rfl
theorem l_check_many : List.lookup ("check_many" : Str) (Pr : List (Str × Fd)) = some ⟨["many"], ["many"], i_check_many⟩ := rfl
theorem s_check_many : sgOf Pr "check_many" = (["many"] : List Str) := rfl
theorem l_first_clash : List.lookup ("first_clash" : Str) (Pr : List (Str × Fd)) = some ⟨["bottom", "points", "many"], ["bottom", "points", "many", "parts", "point", "one", "other"], i_first_clash⟩ := rfl
theorem s_first_clash : sgOf Pr "first_clash" = (["bottom", "points", "many"] : List Str) := rfl
theorem l_beginning_fault : List.lookup ("beginning_fault" : Str) (Pr : List (Str × Fd)) = some ⟨["bottom", "points"], ["bottom", "points", "many", "pair"], i_beginning_fault⟩ := rfl
theorem s_beginning_fault : sgOf Pr "beginning_fault" = (["bottom", "points"] : List Str) := rfl
theorem l_fair_line : List.lookup ("fair_line" : Str) (Pr : List (Str × Fd)) = some ⟨["bottom", "many"], ["bottom", "many", "way", "here"], i_fair_line⟩ := rfl
theorem s_fair_line : sgOf Pr "fair_line" = (["bottom", "many"] : List Str) := rfl
theorem l__law_pick : List.lookup ("_law_pick" : Str) (Pr : List (Str × Fd)) = some ⟨["stream", "things"], ["stream", "things"], i__law_pick⟩ := rfl
theorem s__law_pick : sgOf Pr "_law_pick" = (["stream", "things"] : List Str) := rfl
theorem l__law_same : List.lookup ("_law_same" : Str) (Pr : List (Str × Fd)) = some ⟨["found", "due"], ["found", "due", "mine", "theirs"], i__law_same⟩ := rfl
theorem s__law_same : sgOf Pr "_law_same" = (["found", "due"] : List Str) := rfl
theorem l__law_loose : List.lookup ("_law_loose" : Str) (Pr : List (Str × Fd)) = some ⟨["stream", "thing"], ["stream", "thing", "some", "one"], i__law_loose⟩ := rfl
theorem s__law_loose : sgOf Pr "_law_loose" = (["stream", "thing"] : List Str) := rfl
theorem l__law_clash : List.lookup ("_law_clash" : Str) (Pr : List (Str × Fd)) = some ⟨["bottom", "points", "many"], ["bottom", "points", "many", "one", "other"], i__law_clash⟩ := rfl
theorem s__law_clash : sgOf Pr "_law_clash" = (["bottom", "points", "many"] : List Str) := rfl
theorem l__law_beginning_fault : List.lookup ("_law_beginning_fault" : Str) (Pr : List (Str × Fd)) = some ⟨["bottom", "points"], ["bottom", "points", "many", "pair"], i__law_beginning_fault⟩ := rfl
theorem s__law_beginning_fault : sgOf Pr "_law_beginning_fault" = (["bottom", "points"] : List Str) := rfl
theorem l__law_line : List.lookup ("_law_line" : Str) (Pr : List (Str × Fd)) = some ⟨["bottom", "many"], ["bottom", "many", "ways", "way", "point"], i__law_line⟩ := rfl
theorem s__law_line : sgOf Pr "_law_line" = (["bottom", "many"] : List Str) := rfl
theorem l__law_draw : List.lookup ("_law_draw" : Str) (Pr : List (Str × Fd)) = none := rfl
theorem s__law_draw : sgOf Pr "_law_draw" = (["stream", "many"] : List Str) := rfl
end Lk76

/-! Sx: plain reasoning on the evaluator: loops, calls. -/
namespace Sd
open PySem
/-- a while: as long as I holds, a turn goes on with a lesser measure, or the end satisfies Q -/
theorem whl_wp {test : C → Out Bool} {body : C → Fw} {Q : Fw → Prop} (I : Nat → C → Prop)
    (h : ∀ m c, I m c → (∃ c', test c = .ok true c' ∧ ((∃ c'' m', body c' = .nx c'' ∧ I m' c'' ∧ m' < m) ∨ (∃ f d c'', body c' = .rt f d c'' ∧ Q (.rt f d c'')))) ∨ (∃ c', test c = .ok false c' ∧ Q (.nx c'))) : ∀ n m c, I m c → m < n → Q (whlGo test body n c)
  | 0, m, c, _, hm => by omega
  | n + 1, m, c, hi, hm => by
    rcases h m c hi with ⟨c', e, h | h⟩ | ⟨c', e, h⟩
    · obtain ⟨c2, m', e2, i2, hl⟩ := h
      simp only [whlGo, e, e2]
      exact whl_wp I h n m' c2 i2 (by omega)
    · obtain ⟨f, d, c2, e2, q⟩ := h
      simp only [whlGo, e, e2]; exact q
    · simp only [whlGo, e]; exact h
/-- a turn of a for: it goes on so that N holds, or it ends all as Q says -/
def FwS (o : Fw) (N : C → Prop) (Q : Fw → Prop) : Prop := match o with
  | .nx c => N c
  | .rt f d c => Q (.rt f d c)
  | .exc e c => Q (.exc e c)
  | .stuck => False
theorem for_wp {one : D → C → Fw} {Q : Fw → Prop} (I : List D → C → Prop)
    (h : ∀ x xs c, I (x :: xs) c → FwS (one x c) (I xs) Q) (hz : ∀ c, I [] c → Q (.nx c)) : ∀ xs c, I xs c → Q (forGo one xs c)
  | [], c, hi => by simp only [forGo]; exact hz c hi
  | x :: xs, c, hi => by
    have h1 := h x xs c hi
    simp only [forGo]
    cases e : one x c with
    | nx c' => rw [e] at h1; exact for_wp I h hz xs c' h1
    | rt f d c' => rw [e] at h1; exact h1
    | exc f c' => rw [e] at h1; exact h1
    | stuck => rw [e] at h1; exact h1.elim
/-- a block's run, kept shut -/
@[irreducible] def xL (cl : Caller) (sg : Sig) (lv : Nat) (sp : Bool) (is : List IS) (c : C) : Fw := exL cl sg lv sp is c
theorem xL_eq {cl : Caller} {sg : Sig} {lv : Nat} {sp : Bool} {is : List IS} {c : C} : xL cl sg lv sp is c = exL cl sg lv sp is c := by unfold xL; rfl
/-! ### one behind another: only what is ahead is looked into -/
theorem bind_cg {α β : Type} {x x' : Out α} {f : α → C → Out β} (h : x = x') : x.bind f = x'.bind f := by rw [h]
theorem w_cg {α : Type} {x x' : Out α} {f : α → C → Fw} (h : x = x') : x.w f = x'.w f := by rw [h]
theorem then_cg {x x' : Fw} {f : C → Fw} (h : x = x') : x.then f = x'.then f := by rw [h]
theorem bind_ok {α β : Type} {a : α} {c : C} {f : α → C → Out β} : (Out.ok a c).bind f = f a c := rfl
theorem bind_exc {α β : Type} {e : Exn} {c : C} {f : α → C → Out β} : (Out.exc e c : Out α).bind f = .exc e c := rfl
theorem bind_stuck {α β : Type} {f : α → C → Out β} : (Out.stuck : Out α).bind f = .stuck := rfl
theorem w_ok {α : Type} {a : α} {c : C} {f : α → C → Fw} : (Out.ok a c).w f = f a c := rfl
theorem w_exc {α : Type} {e : Exn} {c : C} {f : α → C → Fw} : (Out.exc e c : Out α).w f = .exc e c := rfl
theorem w_stuck {α : Type} {f : α → C → Fw} : (Out.stuck : Out α).w f = .stuck := rfl
theorem then_nx {c : C} {f : C → Fw} : (Fw.nx c).then f = f c := rfl
theorem then_rt {fl : Fl} {d : D} {c : C} {f : C → Fw} : (Fw.rt fl d c).then f = .rt fl d c := rfl
theorem then_exc {e : Exn} {c : C} {f : C → Fw} : (Fw.exc e c).then f = .exc e c := rfl
theorem then_stuck {f : C → Fw} : Fw.stuck.then f = .stuck := rfl
/-! ### the evaluator's equations, loops kept whole -/
section
variable (cl : Caller) (sg : Sig) (lv : Nat) (sp : Bool)
def whD (t : IE) (body : List IS) (n : Nat) (c : C) : Fw := whlGo (fun c => (evE cl sg lv t c).t lv) (fun c => xL cl sg lv false body c) n c
def foD (ts : List Nat) (one : Bool) (body : List IS) (f : Fl) (xs : List D) (c : C) : Fw := forGo (fun x c => (ofOpt (setTg f ts one x c.r) c).w fun r c => xL cl sg lv false body { c with r := r }) xs c
def lcT (e : IE) (ts : List Nat) (one : Bool) (cs : List IE) : Fl × D → C → Out (Option (Fl × D)) := fun (f, x) c => (ofOpt (setTg f ts one x c.r) c).bind fun r c =>
        (evCs cl sg lv cs { c with r := r }).bind fun k c => if k then ((evE cl sg lv e c).z lv).bind fun fd c => .ok (some fd) c else .ok none c
def lcD (e : IE) (ts : List Nat) (one : Bool) (cs : List IE) (f : Fl) (xs : List D) (c0 : C) : Out R := if xs.length ≤ SZ then (lcGo ts (lcT cl sg lv e ts one cs) f xs c0).noX.bind fun (g, ds) c =>
        .ok (.new g (.lst ds)) { c with r := backR c0.r (wipeR c.r ts) ts }
    else .stuck
section
variable {cl : Caller} {sg : Sig} {lv : Nat} {sp : Bool} {c : C}
theorem L_nil : xL cl sg lv sp [] c = .nx c := by rw [xL_eq]; simp only [exL]
theorem L_cons {i : IS} {is : List IS} : xL cl sg lv sp (i :: is) c = (exS cl sg lv sp i c).then fun c => xL cl sg lv sp is c := by simp only [xL_eq, exL]
theorem S_expr {e : IE} : exS cl sg lv sp (.expr e) c = (evE cl sg lv e c).w fun _ c => .nx c := by first | (simp only [exS, xL_eq]; done) | (simp only [exS, xL_eq]; rfl)
theorem S_asg {i : Nat} {own : Bool} {e : IE} : exS cl sg lv sp (.asg i own e) c = (evE cl sg lv e c).w fun r c => asgS lv i own r c := by first | (simp only [exS, xL_eq]; done) | (simp only [exS, xL_eq]; rfl)
theorem S_asgT {ts : List Nat} {e : IE} : exS cl sg lv sp (.asgT ts e) c = ((evE cl sg lv e c).z lv).w fun (f, d) c => (ofOpt ((seqOf d).bind fun xs => setTs f ts xs c.r) c).w fun r c => .nx { c with r := r } := by first | (simp only [exS, xL_eq]; done) | (simp only [exS, xL_eq]; rfl)
theorem S_par {ts : List Nat} {es : List IE} : exS cl sg lv sp (.par ts es) c = (evF cl sg lv es c).w fun (f, ds) c => (ofOpt (setTs f ts ds c.r) c).w fun r c => .nx { c with r := r } := by first | (simp only [exS, xL_eq]; done) | (simp only [exS, xL_eq]; rfl)
theorem S_parO {ts : List Nat} {es : List (Bool × IE)} : exS cl sg lv sp (.parO ts es) c = (evN cl sg lv es c).w fun rs c => (ofOpt (setRs ts rs c.r) c).w fun r c => .nx { c with r := r } := by first | (simp only [exS, xL_eq]; done) | (simp only [exS, xL_eq]; rfl)
theorem N_nil : evN cl sg lv [] c = .ok [] c := by simp only [evN]
theorem N_tt {e : IE} {es : List (Bool × IE)} : evN cl sg lv ((true, e) :: es) c = (evE cl sg lv e c).bind fun r c => match r with
    | .new f d => (evN cl sg lv es c).bind fun rs c => .ok (.new f d :: rs) c
    | r => (frz lv c r).bind fun (f, d) c => (evN cl sg lv es c).bind fun rs c => .ok (.val (nrm d f) d :: rs) c := by
  simp only [evN]
  congr 1
  funext r c
  cases r <;> rfl
theorem N_ff {e : IE} {es : List (Bool × IE)} : evN cl sg lv ((false, e) :: es) c = (evE cl sg lv e c).bind fun r c => (frz lv c r).bind fun (f, d) c => (evN cl sg lv es c).bind fun rs c => .ok (.val (nrm d f) d :: rs) c := by
  simp only [evN]
  all_goals rfl
theorem S_setIx {i : Nat} {ix e : IE} : exS cl sg lv sp (.setIx i ix e) c = ((evE cl sg lv e c).z lv).w fun (g, d) c => if isOwnL c i then ((evE cl sg lv ix c).z lv).w fun (_, k) c =>
    match c.r[i]?, k with
    | some (.ow f (.lst xs)), .int k => match L2.ixN xs.length k with
      | some j => .nx { c with r := c.r.set i (.ow (f.join (nrm d g)) (.lst (xs.set j d))) }
      | none => .stuck
    | _, _ => .stuck
    else .stuck := by first | (simp only [exS, xL_eq]; done) | (simp only [exS, xL_eq]; rfl)
theorem S_ret {e : IE} : exS cl sg lv sp (.ret e) c = ((evE cl sg lv e c).z lv).w fun (f, d) c => .rt (nrm d f) d c := by first | (simp only [exS, xL_eq]; done) | (simp only [exS, xL_eq]; rfl)
theorem S_retN : exS cl sg lv sp .retN c = .rt Fl.top .non c := by first | (simp only [exS, xL_eq]; done) | (simp only [exS, xL_eq]; rfl)
theorem S_ite {t : IE} {a b : List IS} : exS cl sg lv sp (.ite t a b) c = ((evE cl sg lv t c).t lv).w fun k c => if k then xL cl sg lv sp a c else xL cl sg lv sp b c := by first | (simp only [exS, xL_eq]; done) | (simp only [exS, xL_eq]; rfl)
theorem S_for {ts : List Nat} {one : Bool} {it : IT} {body : List IS} : exS cl sg lv sp (.for ts one it body) c = (evIt cl sg lv it c).w fun (f, xs) c => foD cl sg lv ts one body f xs c := by first | (simp only [exS, foD, xL_eq]; done) | (simp only [exS, foD, xL_eq]; rfl)
theorem S_while {t : IE} {body : List IS} : exS cl sg lv sp (.while t body) c = whD cl sg lv t body fuel c := by simp only [exS, whD, xL_eq]
theorem whD_succ {t : IE} {body : List IS} {n : Nat} : whD cl sg lv t body (n + 1) c = ((evE cl sg lv t c).t lv).w fun k c => if k then (xL cl sg lv false body c).then fun c => whD cl sg lv t body n c else .nx c := by
  simp only [whD, whlGo]
  cases Out.t lv (evE cl sg lv t c) with
  | ok k c => cases k <;> simp only [Out.w, if_true, Bool.false_eq_true, if_false] <;> first | rfl | (cases xL cl sg lv false body c <;> rfl)
  | exc e c => rfl
  | stuck => rfl
theorem S_pass : exS cl sg lv sp .pass c = .nx c := by first | (simp only [exS, xL_eq]; done) | (simp only [exS, xL_eq]; rfl)
theorem S_scope {body : List IS} : exS cl sg lv sp (.scope body) c = clampW lv (xL cl sg (lv + 1) true body c) := by first | (simp only [exS, xL_eq]; done) | (simp only [exS, xL_eq]; rfl)
theorem S_spoil {e : IE} : exS cl sg lv true (.spoil e) c = ((evE cl sg lv e c).z lv).w fun (f, d) c =>
      if decide (lv ≤ f.lo) && spOk 20 d && decide (2 * nodes d ≤ SZ) then .nx { c with r := c.r.map (spoilS lv) } else .stuck := by simp only [exS, if_true]
theorem E_non : evE cl sg lv .non c = .ok (rv Fl.top .non) c := by first | (simp only [evE]; done) | (simp only [evE]; rfl)
theorem E_bl {b : Bool} : evE cl sg lv (.bl b) c = .ok (rv Fl.top (.bl b)) c := by first | (simp only [evE]; done) | (simp only [evE]; rfl)
theorem E_int {i : Int} : evE cl sg lv (.int i) c = .ok (rv Fl.top (.int i)) c := by first | (simp only [evE]; done) | (simp only [evE]; rfl)
theorem E_str {i : Str} : evE cl sg lv (.str i) c = .ok (rv Fl.top (.str i)) c := by first | (simp only [evE]; done) | (simp only [evE]; rfl)
theorem E_var {i : Nat} : evE cl sg lv (.var i) c = match c.r[i]? with
    | some (.sh f d) => .ok (.val f d) c
    | some (.ow _ _) => .ok (.bor i) c
    | _ => .stuck := by first | (simp only [evE]; done) | (simp only [evE]; rfl)
theorem E_op2 {o : Op2} {a b : IE} : evE cl sg lv (.op2 o a b) c = ((evE cl sg lv a c).o lv).bind fun ra c => ((evE cl sg lv b c).o lv).bind fun rb c =>
    match look c ra, look c rb with
    | some (f, x), some (g, y) => res lv (f.join g) (bin o x y) c
    | _, _ => .stuck := by first | (simp only [evE]; done) | (simp only [evE]; rfl)
theorem E_neg {a : IE} : evE cl sg lv (.neg a) c = ((evE cl sg lv a c).o lv).bind fun ra c => match look c ra with
    | some (_, .int i) => .ok (rv Fl.top (.int (-i))) c
    | _ => .stuck := by first | (simp only [evE]; done) | (simp only [evE]; rfl)
theorem E_cmp {o : Cm} {a b : IE} : evE cl sg lv (.cmp o a b) c = ((evE cl sg lv a c).o lv).bind fun ra c => ((evE cl sg lv b c).o lv).bind fun rb c =>
    match look c ra, look c rb with
    | some (_, x), some (_, y) => (ofOpt (cmpD o x y) c).bind fun k c => .ok (rv Fl.top (.bl k)) c
    | _, _ => .stuck := by first | (simp only [evE]; done) | (simp only [evE]; rfl)
theorem E_isN {a : IE} : evE cl sg lv (.isN a) c = ((evE cl sg lv a c).o lv).bind fun ra c => match look c ra with
    | some (_, .non) => .ok (rv Fl.top (.bl true)) c
    | some (_, _) => .ok (rv Fl.top (.bl false)) c
    | none => .stuck := by first | (simp only [evE]; done) | (simp only [evE]; rfl)
theorem E_notN {a : IE} : evE cl sg lv (.notN a) c = ((evE cl sg lv a c).o lv).bind fun ra c => match look c ra with
    | some (_, .non) => .ok (rv Fl.top (.bl false)) c
    | some (_, _) => .ok (rv Fl.top (.bl true)) c
    | none => .stuck := by first | (simp only [evE]; done) | (simp only [evE]; rfl)
theorem E_chn {o o' : Cm} {a b d : IE} : evE cl sg lv (.chn o o' a b d) c = ((evE cl sg lv a c).o lv).bind fun ra c => ((evE cl sg lv b c).o lv).bind fun rb c =>
    match look c ra, look c rb with
    | some (_, x), some (_, y) => (ofOpt (cmpD o x y) c).bind fun k c =>
      if k then ((evE cl sg lv d c).o lv).bind fun rd c => match look c rb, look c rd with
        | some (_, y), some (_, z) => (ofOpt (cmpD o' y z) c).bind fun k c => .ok (rv Fl.top (.bl k)) c
        | _, _ => .stuck
      else .ok (rv Fl.top (.bl false)) c
    | _, _ => .stuck := by first | (simp only [evE]; done) | (simp only [evE]; rfl)
theorem E_and {a b : IE} : evE cl sg lv (.and a b) c = ((evE cl sg lv a c).o lv).bind fun ra c => match look c ra with
    | some (_, .bl true) => evE cl sg lv b c
    | some (_, .bl false) => .ok (rv Fl.top (.bl false)) c
    | _ => .stuck := by first | (simp only [evE]; done) | (simp only [evE]; rfl)
theorem E_or {a b : IE} : evE cl sg lv (.or a b) c = ((evE cl sg lv a c).o lv).bind fun ra c => match look c ra with
    | some (_, .bl false) => evE cl sg lv b c
    | some (_, .bl true) => .ok (rv Fl.top (.bl true)) c
    | _ => .stuck := by first | (simp only [evE]; done) | (simp only [evE]; rfl)
theorem E_not {a : IE} : evE cl sg lv (.not a) c = ((evE cl sg lv a c).t lv).bind fun k c => .ok (rv Fl.top (.bl (!k))) c := by first | (simp only [evE]; done) | (simp only [evE]; rfl)
theorem E_ite {t a b : IE} : evE cl sg lv (.ite t a b) c = ((evE cl sg lv t c).t lv).bind fun k c => if k then evE cl sg lv a c else evE cl sg lv b c := by first | (simp only [evE]; done) | (simp only [evE]; rfl)
theorem E_lst {xs : List IE} : evE cl sg lv (.lst xs) c = (evS cl sg lv xs c).bind fun (f, ds) c => if ds.length ≤ SZ then .ok (.new f (.lst ds)) c else .stuck := by first | (simp only [evE]; done) | (simp only [evE]; rfl)
theorem E_tup {xs : List IE} : evE cl sg lv (.tup xs) c = (evF cl sg lv xs c).bind fun (f, ds) c => if ds.length ≤ SZ then .ok (rv (f.join (.at lv)) (.tup ds)) c else .stuck := by first | (simp only [evE]; done) | (simp only [evE]; rfl)
theorem E_ix {a i : IE} : evE cl sg lv (.ix a i) c = ((evE cl sg lv a c).o lv).bind fun ra c => ((evE cl sg lv i c).o lv).bind fun ri c =>
    match look c ra, look c ri with
    | some (f, x), some (_, y) => (ofOpt (ixD x y) c).bind fun d c => .ok (rv f d) c
    | _, _ => .stuck := by first | (simp only [evE]; done) | (simp only [evE]; rfl)
theorem E_slc {a : IE} {lo hi : List IE} : evE cl sg lv (.slc a lo hi) c = ((evE cl sg lv a c).o lv).bind fun ra c => (evP cl sg lv lo c).bind fun l c => (evP cl sg lv hi c).bind fun h c =>
    match look c ra with
    | some (f, .lst xs) => .ok (.new f (.lst (cutD xs l h))) c
    | some (f, .tup xs) => .ok (rv (f.join (.at lv)) (.tup (cutD xs l h))) c
    | _ => .stuck := by first | (simp only [evE]; done) | (simp only [evE]; rfl)
theorem E_rev {a : IE} : evE cl sg lv (.rev a) c = ((evE cl sg lv a c).o lv).bind fun ra c => match look c ra with
    | some (f, .lst xs) => .ok (.new f (.lst xs.reverse)) c
    | _ => .stuck := by first | (simp only [evE]; done) | (simp only [evE]; rfl)
theorem E_call {f : Str} {as : List IE} {ks : List Str} {kas : List IE} : evE cl sg lv (.call f as ks kas) c = (evA cl sg lv as c).bind fun ra c => (evA cl sg lv kas c).bind fun rk c =>
    match looks c ra, looks c rk with
    | some (g, ds), some (h, dk) => match byName (sg f) ds ks dk with
      | some args => match cl f args c.s with
        | some (.inl (fl, d, s)) => backF lv fl d ra rk c fun f c => .ok (rv f d) { c with s := s }
        | some (.inr (e, s)) => backF lv e.fl e.arg ra rk c fun f c => .exc { e with fl := f } { c with s := s }
        | none => .stuck
      | none => .stuck
    | _, _ => .stuck := by first | (simp only [evE]; done) | (simp only [evE]; rfl)
theorem E_blt {b : Bt} {as : List IE} : evE cl sg lv (.blt b as) c = (evA cl sg lv as c).bind fun ra c => match looks c ra with
    | some (f, ds) => res lv f (bltD b ds) c
    | none => .stuck := by first | (simp only [evE]; done) | (simp only [evE]; rfl)
theorem E_isa {a : IE} {ts : List Ty} : evE cl sg lv (.isa a ts) c = ((evE cl sg lv a c).o lv).bind fun ra c => match look c ra with
    | some (_, .stm _) => .stuck
    | some (_, .obj _) => .stuck
    | some (_, d) => .ok (rv Fl.top (.bl (ts.any fun t => isTy t d))) c
    | none => .stuck := by first | (simp only [evE]; done) | (simp only [evE]; rfl)
theorem E_mth {m : Mt} {i : Nat} {as : List IE} : evE cl sg lv (.mth m i as) c = if isOwnL c i then (evF cl sg lv as c).bind fun (g, ds) c => match c.r[i]? with
    | some (.ow f (.lst xs)) => match mthD m xs ds with
      | some (d, ys) => .ok (rv (f.join g) d) { c with r := c.r.set i (.ow (f.join g) (.lst ys)) }
      | none => .stuck
    | _ => .stuck
    else .stuck := by first | (simp only [evE]; done) | (simp only [evE]; rfl)
theorem E_lc {e : IE} {ts : List Nat} {one : Bool} {it : IT} {cs : List IE} : evE cl sg lv (.lc e ts one it cs) c = (evIt cl sg lv it c).bind fun (f, xs) c0 => lcD cl sg lv e ts one cs f xs c0 := by
  first | (simp only [evE, lcD, lcT]; done) | (simp only [evE, lcD, lcT]; rfl)
theorem E_lrng {as : List IE} : evE cl sg lv (.lrng as) c = (evF cl sg lv as c).bind fun (_, ds) c => (ofOpt (rngD ds) c).bind fun xs c => .ok (.new Fl.top (.lst xs)) c := by first | (simp only [evE]; done) | (simp only [evE]; rfl)
end
end
/-! ### what a loop walks -/
theorem It_rng {cl : Caller} {sg : Sig} {lv : Nat} {as : List IE} {c c1 : C} {f : Fl} {ds xs : List D} (h2 : rngD ds = some xs) (h : evF cl sg lv as c = .ok (f, ds) c1) : evIt cl sg lv (.rng as) c = .ok (Fl.top, xs) c1 := by
  simp only [evIt, h, bind_ok, h2, Sd.ofOpt]
/-! ### calls -/
theorem Fl.at_eq {n : Nat} : Fl.at n = ⟨n, n⟩ := rfl
theorem Fl.top_join {f : Fl} (h : f.lo ≤ 1000000) : Fl.top.join f = f := by
  unfold Fl.join Fl.top big
  cases f
  simp at h ⊢; omega
theorem Fl.join_top {f : Fl} (h : f.lo ≤ 1000000) : f.join Fl.top = f := by rw [show f.join Fl.top = Fl.top.join f by unfold Fl.join; rw [Nat.min_comm, Nat.max_comm]]; exact Fl.top_join h
theorem Fl.top_top : Fl.top.join Fl.top = Fl.top := rfl
theorem Fl.join_mk {a b c d : Nat} : (⟨a, b⟩ : Fl).join ⟨c, d⟩ = ⟨if a ≤ c then a else c, if b ≤ d then d else b⟩ := by
  unfold Fl.join; simp only [Nat.min_def, Nat.max_def]
theorem Fl.top_lo : Fl.top.lo = 1000000 := rfl
theorem Fl.top_clamp {n : Nat} : Fl.top.clamp n = Fl.top := rfl
theorem Fl.mk_clamp {a b n : Nat} (h : a ≤ b) : (⟨a, b⟩ : Fl).clamp n = ⟨if a ≤ n then a else n, if b ≤ n then b else n⟩ := by
  unfold Fl.clamp; rw [if_neg (by simp; omega)]; simp only [Nat.min_def]
theorem Fl.top_hit {n : Nat} : Fl.top.hit n = false := rfl
theorem Fl.mk_hit {a b n : Nat} : (⟨a, b⟩ : Fl).hit n = (decide (a ≤ b) && decide (n ≤ b)) := rfl
theorem byName_nil {ps : List Str} {as : List D} (h : as.length = ps.length) : byName ps as [] [] = some as := by
  unfold byName
  have e : permOk ps [] as.length ([] : List D).length = true := by
    unfold permOk
    rw [h, List.drop_length]
    simp
  rw [if_pos e]
  unfold perm
  rw [h, List.drop_length]
  simp
theorem startR_eq {ps N : List Str} {b : List IS} {as : List D} : startR ⟨ps, N, b⟩ as = as.map (fun d => .sh (nrm d ⟨0, 0⟩) d) ++ List.replicate (N.length - as.length) .un := rfl
theorem wipeR_nil {r : List Slot} : wipeR r [] = r := rfl
theorem wipeR_cons {r : List Slot} {v : Nat} {vs : List Nat} : wipeR r (v :: vs) = (wipeR r vs).set v .un := rfl
theorem backR_nil {r0 r : List Slot} : backR r0 r [] = r := rfl
def backS : Option Slot → Slot
  | some (.sh f d) => .sh f d
  | _ => .un
theorem backS_sh {f : Fl} {d : D} : backS (some (.sh f d)) = .sh f d := rfl
theorem backS_un : backS (some .un) = .un := rfl
theorem backR_cons {r0 r : List Slot} {v : Nat} {vs : List Nat} : backR r0 r (v :: vs) = (backR r0 r vs).set v (backS r0[v]?) := by
  simp only [backR]
  cases r0[v]? with
  | none => rfl
  | some o => cases o <;> rfl
/-- a turn of a comprehension makes d, leaves the state as it is -/
def TuOk (ts : List Nat) (r1 : List Slot) (s : List Stm) (d : D) (o : Out (Option (Fl × D))) : Prop := match o with
  | .ok (some (h, d')) c => d' = d ∧ nrm d' h = Fl.top ∧ c.s = s ∧ wipeR c.r ts = r1
  | _ => False
/-- a comprehension over items made of ys, each turn leaves the state -/
theorem lcD_map {α : Type} {cl : Caller} {sg : Sig} {lv : Nat} {e : IE} {ts : List Nat} {one : Bool} {f : Fl} {r r1 : List Slot} {s : List Stm} (ys : List α) (F G : α → D) (hl : ys.length ≤ SZ) (hw : wipeR r ts = r1)
    (h : ∀ y ∈ ys, TuOk ts r1 s (G y) (lcT cl sg lv e ts one [] (f, F y) ⟨r1, s⟩)) :
    lcD cl sg lv e ts one [] f (ys.map F) ⟨r, s⟩ = .ok (.new Fl.top (.lst (ys.map G))) ⟨backR r r1 ts, s⟩ := by
  have go : ∀ (zs : List α), (∀ y ∈ zs, y ∈ ys) → ∀ r0, wipeR r0 ts = r1 → ∃ r', lcGo ts (lcT cl sg lv e ts one []) f (zs.map F) ⟨r0, s⟩ = .ok (Fl.top, zs.map G) ⟨r', s⟩ ∧ wipeR r' ts = r1 := fun zs => by
    induction zs with
    | nil => exact fun _ r0 h0 => ⟨r0, rfl, h0⟩
    | cons z zs ih =>
      intro hz r0 h0
      have hh := h z (hz z List.mem_cons_self)
      cases eo : lcT cl sg lv e ts one [] (f, F z) ⟨r1, s⟩ with
      | exc _ _ => rw [eo] at hh; exact hh.elim
      | stuck => rw [eo] at hh; exact hh.elim
      | ok a c =>
        rw [eo] at hh
        cases a with
        | none => exact hh.elim
        | some hd =>
          obtain ⟨h2, d2⟩ := hd
          obtain ⟨r2, s2⟩ := c
          obtain ⟨e1, e3, e4, e2⟩ := hh
          dsimp only at e1 e2 e3 e4
          subst e1; subst e4
          obtain ⟨r3, e4, e5⟩ := ih (fun y hy => hz y (List.mem_cons_of_mem _ hy)) r2 e2
          refine ⟨r3, ?_, e5⟩
          simp only [List.map_cons, lcGo, h0, eo, Out.bind]
          rw [e4]
          simp only [e3]
          rfl
  obtain ⟨r', e1, e2⟩ := go ys (fun _ h => h) r hw
  unfold lcD
  rw [if_pos (by rw [List.length_map]; exact hl), e1]
  simp only [Out.noX, Out.bind, e2]
/-- a turn of a comprehension makes o, leaves the state as it is -/
def TuO (ts : List Nat) (r1 : List Slot) (s : List Stm) (od : Option D) (o : Out (Option (Fl × D))) : Prop := match o with
  | .ok (some (h, d')) c => od = some d' ∧ nrm d' h = Fl.top ∧ c.s = s ∧ wipeR c.r ts = r1
  | .ok none c => od = none ∧ c.s = s ∧ wipeR c.r ts = r1
  | _ => False
theorem lcD_fm {α : Type} {cl : Caller} {sg : Sig} {lv : Nat} {e : IE} {cs : List IE} {ts : List Nat} {one : Bool} {f : Fl} {r r1 : List Slot} {s : List Stm} (ys : List α) (F : α → D) (G : α → Option D) (hl : ys.length ≤ SZ) (hw : wipeR r ts = r1)
    (h : ∀ y ∈ ys, TuO ts r1 s (G y) (lcT cl sg lv e ts one cs (f, F y) ⟨r1, s⟩)) :
    lcD cl sg lv e ts one cs f (ys.map F) ⟨r, s⟩ = .ok (.new Fl.top (.lst (ys.filterMap G))) ⟨backR r r1 ts, s⟩ := by
  have go : ∀ (zs : List α), (∀ y ∈ zs, y ∈ ys) → ∀ r0, wipeR r0 ts = r1 → ∃ r', lcGo ts (lcT cl sg lv e ts one cs) f (zs.map F) ⟨r0, s⟩ = .ok (Fl.top, zs.filterMap G) ⟨r', s⟩ ∧ wipeR r' ts = r1 := fun zs => by
    induction zs with
    | nil => exact fun _ r0 h0 => ⟨r0, rfl, h0⟩
    | cons z zs ih =>
      intro hz r0 h0
      have hh := h z (hz z List.mem_cons_self)
      cases eo : lcT cl sg lv e ts one cs (f, F z) ⟨r1, s⟩ with
      | exc _ _ => rw [eo] at hh; exact hh.elim
      | stuck => rw [eo] at hh; exact hh.elim
      | ok a c =>
        rw [eo] at hh
        cases a with
        | none =>
          obtain ⟨r2, s2⟩ := c
          obtain ⟨e1, e4, e2⟩ := hh
          dsimp only at e1 e2 e4
          subst e4
          obtain ⟨r3, e4, e5⟩ := ih (fun y hy => hz y (List.mem_cons_of_mem _ hy)) r2 e2
          refine ⟨r3, ?_, e5⟩
          simp only [List.map_cons, lcGo, h0, eo, Out.bind, List.filterMap_cons, e1]
          rw [e4]
        | some hd =>
          obtain ⟨h2, d2⟩ := hd
          obtain ⟨r2, s2⟩ := c
          obtain ⟨e1, e3, e4, e2⟩ := hh
          dsimp only at e1 e2 e3 e4
          subst e4
          obtain ⟨r3, e4, e5⟩ := ih (fun y hy => hz y (List.mem_cons_of_mem _ hy)) r2 e2
          refine ⟨r3, ?_, e5⟩
          simp only [List.map_cons, lcGo, h0, eo, Out.bind, List.filterMap_cons, e1]
          rw [e4]
          simp only [e3]
          rfl
  obtain ⟨r', e1, e2⟩ := go ys (fun _ h => h) r hw
  unfold lcD
  rw [if_pos (by rw [List.length_map]; exact hl), e1]
  simp only [Out.noX, Out.bind, e2]
/-- numbered from k on -/
def enmL {α : Type} (k : Int) : List α → List (Int × α)
  | [] => []
  | x :: xs => (k, x) :: enmL (k + 1) xs
theorem enmD_map {α : Type} (F : α → D) : ∀ (xs : List α) (k : Int), enmD k (xs.map F) = (enmL k xs).map fun p => .tup [.int p.1, F p.2]
  | [], _ => rfl
  | x :: xs, k => by simp only [List.map_cons, enmD, enmL, enmD_map F xs]
theorem enmL_len {α : Type} : ∀ (xs : List α) (k : Int), (enmL k xs).length = xs.length
  | [], _ => rfl
  | x :: xs, k => by simp only [enmL, List.length_cons, enmL_len xs]
theorem enmL_mem {α : Type} : ∀ {xs : List α} {k : Int} {p : Int × α}, p ∈ enmL k xs → k ≤ p.1 ∧ p.1 < k + xs.length ∧ p.2 ∈ xs
  | x :: xs, k, p, h => by
    simp only [enmL] at h
    rcases List.mem_cons.mp h with rfl | h
    · simp only [List.length_cons]; exact ⟨by omega, by omega, List.mem_cons_self⟩
    · obtain ⟨a, b, c⟩ := enmL_mem h
      simp only [List.length_cons]; exact ⟨by omega, by omega, List.mem_cons_of_mem _ c⟩
theorem insI_len (x : Int) : ∀ xs : List Int, (insI x xs).length = xs.length + 1
  | [] => rfl
  | y :: r => by
    simp only [insI]; split
    · simp
    · simp [insI_len x r]
theorem sortI_len : ∀ xs : List Int, (sortI xs).length = xs.length
  | [] => rfl
  | x :: r => by simp only [sortI, insI_len, sortI_len r, List.length_cons]
theorem insI_mem {x z : Int} : ∀ {xs : List Int}, z ∈ insI x xs ↔ z = x ∨ z ∈ xs
  | [] => by simp [insI]
  | y :: r => by
    simp only [insI]; split
    · simp
    · simp only [List.mem_cons, insI_mem (xs := r)]
      constructor
      · rintro (h | h | h) <;> simp [h]
      · rintro (h | h | h) <;> simp [h]
theorem sortI_mem {z : Int} : ∀ {xs : List Int}, z ∈ sortI xs ↔ z ∈ xs
  | [] => by simp [sortI]
  | x :: r => by simp only [sortI, insI_mem, sortI_mem (xs := r), List.mem_cons]
theorem foldmax_ge : ∀ (xs : List Int) (x : Int), x ≤ xs.foldl (fun m y => if y > m then y else m) x ∧ ∀ y ∈ xs, y ≤ xs.foldl (fun m y => if y > m then y else m) x
  | [], x => ⟨Int.le_refl _, fun y h => (by cases h)⟩
  | z :: xs, x => by
    simp only [List.foldl_cons]
    obtain ⟨a, b⟩ := foldmax_ge xs (if z > x then z else x)
    have c1 : x ≤ (if z > x then z else x) := by split <;> omega
    have c2 : z ≤ (if z > x then z else x) := by split <;> omega
    refine ⟨Int.le_trans c1 a, fun y hy => ?_⟩
    rcases List.mem_cons.mp hy with rfl | hy
    · exact Int.le_trans c2 a
    · exact b y hy
theorem maxI_up {xs : List Int} {y : Int} (h : y ∈ xs) : y ≤ maxI xs := by
  cases xs with
  | nil => cases h
  | cons x xs =>
    obtain ⟨a, b⟩ := foldmax_ge xs x
    rcases List.mem_cons.mp h with rfl | h
    · exact a
    · exact b y h
theorem foldmax_mem : ∀ (xs : List Int) (x : Int), xs.foldl (fun m y => if y > m then y else m) x ∈ x :: xs
  | [], x => List.mem_cons_self
  | z :: xs, x => by
    simp only [List.foldl_cons]
    have h := foldmax_mem xs (if z > x then z else x)
    rcases List.mem_cons.mp h with h | h
    · rw [h]; split <;> simp
    · exact List.mem_cons_of_mem _ (List.mem_cons_of_mem _ h)
theorem maxI_mem {xs : List Int} (h : xs ≠ []) : maxI xs ∈ xs := by
  cases xs with
  | nil => exact absurd rfl h
  | cons x xs => exact foldmax_mem xs x
theorem eqDs_ints : ∀ xs : List Int, eqDs (xs.map D.int) (xs.map D.int) = true
  | [] => by simp only [List.map_nil, eqDs]
  | x :: xs => by simp only [List.map_cons, eqDs, eqD, eqDs_ints xs, beq_self_eq_true, Bool.and_self]
theorem eqOks_int (n : Nat) : ∀ xs : List Int, eqOks n (xs.map D.int) = true
  | [] => by simp only [List.map_nil, eqOks]
  | x :: xs => by
    simp only [List.map_cons, eqOks, eqOks_int n xs, Bool.and_true]
    cases n <;> simp only [eqOk]
theorem spOks_int (n : Nat) : ∀ xs : List Int, spOks n (xs.map D.int) = true
  | [] => by simp only [List.map_nil, spOks]
  | x :: xs => by
    simp only [List.map_cons, spOks, spOks_int n xs, Bool.and_true]
    cases n <;> simp only [spOk]
theorem nodess_int : ∀ xs : List Int, nodess (xs.map D.int) = xs.length
  | [] => by simp only [List.map_nil, nodess, List.length_nil]
  | x :: xs => by
    simp only [List.map_cons, nodess, nodess_int xs, nodes, List.length_cons]; omega
theorem ixD_l {xs : List D} {i : Int} : ixD (.lst xs) (.int i) = atD xs i := rfl
theorem ixD_t {xs : List D} {i : Int} : ixD (.tup xs) (.int i) = atD xs i := rfl
theorem seqOf_l {xs : List D} : seqOf (.lst xs) = some xs := rfl
theorem seqOf_t {xs : List D} : seqOf (.tup xs) = some xs := rfl
theorem rngD_nat {m : Nat} (hm : m ≤ SZ) : rngD [.int (m : Int)] = some ((List.range m).map fun (k : Nat) => D.int (k : Int)) := by
  have : rOk (m : Int) = true := rOk_iff.mpr (by omega)
  simp only [rngD, if_pos this, Int.toNat_natCast]
theorem intsOf_map : ∀ xs : List Int, intsOf (xs.map D.int) = some xs
  | [] => rfl
  | x :: xs => by simp only [List.map_cons, intsOf, intsOf_map xs, Option.map_some]
theorem blsOf_map : ∀ xs : List Bool, blsOf (xs.map D.bl) = some xs
  | [] => rfl
  | x :: xs => by simp only [List.map_cons, blsOf, blsOf_map xs, Option.map_some]
theorem zipD_self : ∀ xs : List D, zipD xs xs = xs.map fun x => .tup [x, x]
  | [] => rfl
  | x :: xs => by simp only [zipD, List.map_cons, zipD_self xs]
theorem callF_eq {P : Pg} {n : Nat} {f : Str} {fd : Fd} {as : List D} {s : List Stm} (h : List.lookup f (P : List (Str × Fd)) = some fd) (hl : as.length = fd.ps.length) : callF P (n + 1) f as s = endW (xL (callF P n) (sgOf P) 1 false fd.body ⟨startR fd as, s⟩) := by
  have h : List.lookup f P = some fd := h
  simp only [callF, h, xL_eq]
  rw [if_pos hl]
def RtQ (f : Fl) (d : D) (s : List Stm) : Fw → Prop
  | .rt f' d' c' => f' = f ∧ d' = d ∧ c'.s = s
  | _ => False
theorem callF_rt {P : Pg} {n : Nat} {f : Str} {fd : Fd} {as : List D} {s s' : List Stm} {fl : Fl} {d : D} (h : List.lookup f (P : List (Str × Fd)) = some fd) (hl : as.length = fd.ps.length) (h2 : FwS (xL (callF P n) (sgOf P) 1 false fd.body ⟨startR fd as, s⟩) (fun c => fl = Fl.top ∧ d = .non ∧ c.s = s') (RtQ fl d s')) : callF P (n + 1) f as s = some (.inl (fl, d, s')) := by
  rw [callF_eq h hl]
  cases e : xL (callF P n) (sgOf P) 1 false fd.body ⟨startR fd as, s⟩ with
  | nx c =>
    rw [e] at h2
    obtain ⟨rfl, rfl, rfl⟩ := h2
    rfl
  | exc x c => rw [e] at h2; exact h2.elim
  | stuck => rw [e] at h2; exact h2.elim
  | rt f' d' c' =>
    rw [e] at h2
    obtain ⟨rfl, rfl, rfl⟩ := h2
    rfl
theorem L_step {cl : Caller} {sg : Sig} {lv : Nat} {sp : Bool} {c c' : C} {i : IS} {is : List IS} {N : C → Prop} {Q : Fw → Prop} (h : exS cl sg lv sp i c = .nx c') (k : FwS (xL cl sg lv sp is c') N Q) : FwS (xL cl sg lv sp (i :: is) c) N Q := by
  rw [L_cons, h]; exact k
theorem L_ret {cl : Caller} {sg : Sig} {lv : Nat} {sp : Bool} {c c' : C} {i : IS} {is : List IS} {N : C → Prop} {Q : Fw → Prop} {f : Fl} {d : D} (h : exS cl sg lv sp i c = .rt f d c') (q : Q (.rt f d c')) : FwS (xL cl sg lv sp (i :: is) c) N Q := by
  rw [L_cons, h]; exact q
/-- a statement by itself: what follows is K -/
theorem L_gen {cl : Caller} {sg : Sig} {lv : Nat} {sp : Bool} {c : C} {i : IS} {is : List IS} {N : C → Prop} {Q : Fw → Prop} (h : ∀ (P : Fw → Prop) (K : C → Fw), (∀ c, FwS (xL cl sg lv sp is c) N Q → P (K c)) → (∀ f d c, Q (.rt f d c) → P (.rt f d c)) → P ((exS cl sg lv sp i c).then K)) : FwS (xL cl sg lv sp (i :: is) c) N Q := by
  rw [L_cons]
  exact h (fun o => FwS o N Q) _ (fun c h => h) (fun f d c h => h)
theorem FwS_imp {o : Fw} {N N' : C → Prop} {Q : Fw → Prop} (h : FwS o N Q) (k : ∀ c, N c → N' c) : FwS o N' Q := by
  cases o with
  | nx c => exact k c h
  | rt f d c => exact h
  | exc e c => exact h
  | stuck => exact h
theorem L_end {cl : Caller} {sg : Sig} {lv : Nat} {sp : Bool} {c : C} {N : C → Prop} {Q : Fw → Prop} (h : N c) : FwS (xL cl sg lv sp [] c) N Q := by
  rw [L_nil]; exact h
theorem L_for {cl : Caller} {sg : Sig} {lv : Nat} {sp : Bool} {c c1 : C} {ts : List Nat} {one : Bool} {it : IT} {body is : List IS} {N : C → Prop} {Q : Fw → Prop} {f : Fl} {xs : List D} (I : List D → C → Prop) (h1 : evIt cl sg lv it c = .ok (f, xs) c1) (hI : I xs c1)
    (hs : ∀ x xs c, I (x :: xs) c → FwS ((ofOpt (setTg f ts one x c.r) c).w fun r c => xL cl sg lv false body { c with r := r }) (I xs) Q) (hz : ∀ c, I [] c → FwS (xL cl sg lv sp is c) N Q) : FwS (xL cl sg lv sp (.for ts one it body :: is) c) N Q := by
  rw [L_cons, S_for, h1, w_ok]
  show FwS (Fw.then (foD cl sg lv ts one body f xs c1) _) N Q
  unfold foD
  refine for_wp (Q := fun o => FwS (o.then fun c => xL cl sg lv sp is c) N Q) I (fun x xs c hi => ?_) (fun c hc => hz c hc) xs c1 hI
  have := hs x xs c hi
  cases e : (ofOpt (setTg f ts one x c.r) c).w fun r c => xL cl sg lv false body { c with r := r } with
  | nx c' => rw [e] at this; exact this
  | rt a b c' => rw [e] at this; exact this
  | exc a c' => rw [e] at this; exact this
  | stuck => rw [e] at this; exact this
theorem L_scope {cl : Caller} {sg : Sig} {lv : Nat} {sp : Bool} {c : C} {body is : List IS} {N : C → Prop} {Q : Fw → Prop} (h : FwS (xL cl sg (lv + 1) true body c) (fun c' => FwS (xL cl sg lv sp is (clampC lv c')) N Q) (fun _ => False)) : FwS (xL cl sg lv sp (.scope body :: is) c) N Q := by
  rw [L_cons, S_scope]
  cases e : xL cl sg (lv + 1) true body c with
  | nx c' => rw [e] at h; exact h
  | rt a b c' => rw [e] at h; exact h.elim
  | exc a c' => rw [e] at h; exact h.elim
  | stuck => rw [e] at h; exact h.elim
theorem callF_draw {P : Pg} {n : Nat} {g : Nat} {many : Int} {s : List Stm} {t : Stm} (h : List.lookup nDraw (P : List (Str × Fd)) = none) (hg : s[g]? = some t) : callF P (n + 1) nDraw [.stm g, .int many] s = (draw t many).map fun (i, t') => .inl (Fl.top, .int i, s.set g t') := by
  have h : List.lookup nDraw P = none := h
  simp only [callF, h, prim, if_true, hg]
/-- a stream that may still be drawn from k times -/
structure StmOk (k : Nat) (t : Stm) : Prop where
  a : 0 ≤ t.cnt
  b : t.cnt + k < cntMax
  c : 0 ≤ t.mix
  d : t.mix < 2147483629
theorem drawGo_mix : ∀ (cs : List Int) (cur mix : Int), 0 ≤ mix → mix < 2147483629 → 0 ≤ (drawGo cs cur mix).2.2 ∧ (drawGo cs cur mix).2.2 < 2147483629
  | [], cur, mix, h1, h2 => ⟨h1, h2⟩
  | x :: xs, cur, mix, h1, h2 => by
    unfold drawGo
    split
    · exact drawGo_mix xs _ _ (Int.emod_nonneg _ (by decide)) (Int.emod_lt_of_pos _ (by decide))
    · exact ⟨h1, h2⟩
theorem draw_ok {k : Nat} {t : Stm} {many : Int} (h : StmOk (k + 1) t) (h1 : 0 < many) (h2 : many < 1000000000) : ∃ i t', draw t many = some (i, t') ∧ 0 ≤ i ∧ i < many ∧ StmOk k t' := by
  obtain ⟨a, b, c, d⟩ := h
  have hm := drawGo_mix t.cells t.cur t.mix c d
  unfold draw
  rw [if_pos ⟨h1, h2, a, by omega, c, d⟩]
  generalize drawGo t.cells t.cur t.mix = z at hm
  obtain ⟨cs, cur, mix⟩ := z
  dsimp only at hm ⊢
  split
  · exact ⟨_, _, rfl, Int.emod_nonneg _ (by omega), Int.emod_lt_of_pos _ h1, ⟨by show 0 ≤ t.cnt + 1; omega, by show t.cnt + 1 + k < cntMax; omega, hm.1, hm.2⟩⟩
  · exact ⟨_, _, rfl, Int.emod_nonneg _ (by omega), Int.emod_lt_of_pos _ h1, ⟨by show 0 ≤ t.cnt + 1; omega, by show t.cnt + 1 + k < cntMax; omega, hm.1, hm.2⟩⟩
/-- a draw from the only stream -/
theorem call_draw {P : Pg} {n k : Nat} {many : Int} {t : Stm} (h : List.lookup nDraw (P : List (Str × Fd)) = none) (ht : StmOk (k + 1) t) (h1 : 0 < many) (h2 : many < 1000000000) :
    ∃ i t', callF P (n + 1) nDraw [.stm 0, .int many] [t] = some (.inl (Fl.top, .int i, [t'])) ∧ 0 ≤ i ∧ i < many ∧ StmOk k t' := by
  obtain ⟨i, t', e, a, b, c⟩ := draw_ok ht h1 h2
  exact ⟨i, t', by rw [callF_draw h (t := t) rfl, e]; rfl, a, b, c⟩
end Sd

/-! Sy: the helpers that all laws have. -/
namespace Sd
open PySem
def sameI : List IS := [
    (.ite (.isa (.var 1) [.list, .tuple]) [(.ite (.or (.cmp .ne (.isa (.var 0) [.list]) (.isa (.var 1) [.list])) (.cmp .ne (.isa (.var 0) [.tuple]) (.isa (.var 1) [.tuple]))) [(.ret (.bl false))] []), (.ret (.and (.cmp .eq (.blt .len [(.var 0)]) (.blt .len [(.var 1)])) (.blt .all [(.lc (.call "_law_same" [(.var 2), (.var 3)] [] []) [2, 3] false (.zip (.var 0) (.var 1)) [])])))] []),
    (.ite (.isa (.var 1) [.dict]) [(.ret (.and (.isa (.var 0) [.dict]) (.call "_law_same" [(.blt .list [.never]), (.blt .list [.never])] [] [])))] []),
    (.ite (.or (.isa (.var 1) [.bool]) (.isa (.var 0) [.bool])) [(.ret (.and (.isa (.var 1) [.bool]) (.and (.isa (.var 0) [.bool]) (.cmp .eq (.var 0) (.var 1)))))] []),
    (.ite (.or (.isN (.var 1)) (.isN (.var 0))) [(.ret (.and (.isN (.var 1)) (.isN (.var 0))))] []),
    (.ite (.or (.cmp .ne (.isa (.var 1) [.int]) (.isa (.var 0) [.int])) (.cmp .ne (.isa (.var 1) [.str]) (.isa (.var 0) [.str]))) [(.ret (.bl false))] []),
    (.ret (.and (.not (.isa (.var 0) [.list, .tuple, .dict])) (.cmp .eq (.var 0) (.var 1))))]
mutual
/-- what `_law_same` serves, so deep at most -/
def smOk : Nat → D → Bool
  | _, .non => true
  | _, .bl _ => true
  | _, .int _ => true
  | _, .str x => PyData.strOk x
  | n + 1, .lst xs => decide (xs.length ≤ SZ) && smOks n xs
  | n + 1, .tup xs => decide (xs.length ≤ SZ) && smOks n xs
  | _, _ => false
def smOks : Nat → List D → Bool
  | _, [] => true
  | n, d :: ds => smOk n d && smOks n ds
end
theorem smOks_mem : ∀ {n : Nat} {ds : List D} {d : D}, smOks n ds = true → d ∈ ds → smOk n d = true
  | n, e :: ds, d, h, hm => by
    simp only [smOks, Bool.and_eq_true] at h
    rcases List.mem_cons.mp hm with rfl | hm
    · exact h.1
    · exact smOks_mem h.2 hm
theorem eqD_non : eqD .non .non = true := by simp only [eqD]
theorem eqD_bl {a b : Bool} : eqD (.bl a) (.bl b) = (a == b) := by simp only [eqD]
theorem eqD_int {a b : Int} : eqD (.int a) (.int b) = (a == b) := by simp only [eqD]
theorem eqD_str {a b : Str} : eqD (.str a) (.str b) = (a == b) := by simp only [eqD]
theorem eqOk_bl {n : Nat} {a : Bool} : eqOk n (.bl a) = true := by cases n <;> simp only [eqOk]
theorem eqOk_int {n : Nat} {a : Int} : eqOk n (.int a) = true := by cases n <;> simp only [eqOk]
theorem eqOk_non {n : Nat} : eqOk n .non = true := by cases n <;> simp only [eqOk]
theorem eqOk_str {n : Nat} {a : Str} : eqOk n (.str a) = PyData.strOk a := by cases n <;> simp only [eqOk]
theorem all_true {α : Type} (xs : List α) : (xs.map fun _ => true).all id = true := by simp
theorem same_refl {P : Pg} {N : List Str} (hN : N.length = 4) (hP : List.lookup ("_law_same" : Str) (P : List (Str × Fd)) = some ⟨["found", "due"], N, sameI⟩) (sg : sgOf P "_law_same" = (["found", "due"] : List Str)) : ∀ (k : Nat) (d : D) (n : Nat) (s : List Stm), smOk k d = true → callF P (n + k + 1) "_law_same" [d, d] s = some (.inl (Fl.top, .bl true, s))
  | k, .non, n, s, h => by
    refine callF_rt hP rfl ?_
    simp only [sameI]
    simp only [L_nil, L_cons, S_expr, S_asg, S_asgT, S_par, S_parO, N_nil, N_tt, N_ff, setRs, S_setIx, S_ret, S_retN, S_ite, S_for, S_while, S_pass, S_scope, S_spoil, E_non, E_bl, E_int, E_str, E_var, E_op2, E_neg, E_cmp, E_isN, E_notN, E_chn, E_and, E_or, E_not, E_ite, E_lst, E_tup, E_ix, E_slc, E_rev, E_call, E_blt, E_isa, E_mth, E_lc, E_lrng, evA, evF, evS, evP, evIt, evCs, Out.z, Out.o, Out.t, bind_ok, bind_exc, bind_stuck, w_ok, w_exc, w_stuck, then_nx, then_rt, then_exc, then_stuck, Out.noX, wipeR_cons, wipeR_nil, backR_cons, backR_nil, backS_sh, backS_un, spoilS, clampS, Fl.top_hit, Fl.mk_hit, Fl.top_clamp, frz, frzs, opd, look, looks, rv, res, bin, bltD, cmpD, tru, ixD_l, ixD_t, nrm, imm, imms, Sd.ofOpt, setTs, setTg, Fl.top_top, Fl.at_eq, Fl.top_join, Fl.join_top, Fl.join_mk, Fl.top_lo, Nat.reduceLeDiff, seqOf_l, seqOf_t, asgS, backF, byName_nil, endW, List.getElem?_cons_succ, List.getElem?_cons_zero, List.set_cons_succ, List.set_cons_zero, List.length_cons, List.length_nil, List.length_map, List.length_append, List.map_cons, List.map_nil, Option.map_some, Option.map_none, if_true, if_false, ite_true, ite_false, Bool.false_eq_true, Bool.true_eq_false, Bool.not_true, Bool.not_false, Bool.true_and, Bool.false_and, Bool.and_true, Bool.and_false, Bool.true_or, Bool.false_or, Bool.or_true, Bool.or_false, decide_true, decide_false, startR_eq, List.replicate_succ, List.replicate_zero, List.append_nil, Nat.reduceAdd, Nat.reduceSub, Nat.sub_self, List.cons_append, List.nil_append, Option.getD_some, Option.getD_none, Option.bind_some, reduceIte, reduceCtorEq, hN, isTy, List.any_cons, List.any_nil, FwS, RtQ]
    (repeat' (first | trivial | rfl | apply And.intro))
  | k, .bl b, n, s, h => by
    refine callF_rt hP rfl ?_
    simp only [sameI]
    simp only [L_nil, L_cons, S_expr, S_asg, S_asgT, S_par, S_parO, N_nil, N_tt, N_ff, setRs, S_setIx, S_ret, S_retN, S_ite, S_for, S_while, S_pass, S_scope, S_spoil, E_non, E_bl, E_int, E_str, E_var, E_op2, E_neg, E_cmp, E_isN, E_notN, E_chn, E_and, E_or, E_not, E_ite, E_lst, E_tup, E_ix, E_slc, E_rev, E_call, E_blt, E_isa, E_mth, E_lc, E_lrng, evA, evF, evS, evP, evIt, evCs, Out.z, Out.o, Out.t, bind_ok, bind_exc, bind_stuck, w_ok, w_exc, w_stuck, then_nx, then_rt, then_exc, then_stuck, Out.noX, wipeR_cons, wipeR_nil, backR_cons, backR_nil, backS_sh, backS_un, spoilS, clampS, Fl.top_hit, Fl.mk_hit, Fl.top_clamp, frz, frzs, opd, look, looks, rv, res, bin, bltD, cmpD, tru, ixD_l, ixD_t, nrm, imm, imms, Sd.ofOpt, setTs, setTg, Fl.top_top, Fl.at_eq, Fl.top_join, Fl.join_top, Fl.join_mk, Fl.top_lo, Nat.reduceLeDiff, seqOf_l, seqOf_t, asgS, backF, byName_nil, endW, List.getElem?_cons_succ, List.getElem?_cons_zero, List.set_cons_succ, List.set_cons_zero, List.length_cons, List.length_nil, List.length_map, List.length_append, List.map_cons, List.map_nil, Option.map_some, Option.map_none, if_true, if_false, ite_true, ite_false, Bool.false_eq_true, Bool.true_eq_false, Bool.not_true, Bool.not_false, Bool.true_and, Bool.false_and, Bool.and_true, Bool.and_false, Bool.true_or, Bool.false_or, Bool.or_true, Bool.or_false, decide_true, decide_false, startR_eq, List.replicate_succ, List.replicate_zero, List.append_nil, Nat.reduceAdd, Nat.reduceSub, Nat.sub_self, List.cons_append, List.nil_append, Option.getD_some, Option.getD_none, Option.bind_some, reduceIte, reduceCtorEq, hN, isTy, List.any_cons, List.any_nil, FwS, RtQ, eqOk_bl, eqD_bl, beq_self_eq_true]
    (repeat' (first | trivial | rfl | apply And.intro))
  | k, .int b, n, s, h => by
    refine callF_rt hP rfl ?_
    simp only [sameI]
    simp only [L_nil, L_cons, S_expr, S_asg, S_asgT, S_par, S_parO, N_nil, N_tt, N_ff, setRs, S_setIx, S_ret, S_retN, S_ite, S_for, S_while, S_pass, S_scope, S_spoil, E_non, E_bl, E_int, E_str, E_var, E_op2, E_neg, E_cmp, E_isN, E_notN, E_chn, E_and, E_or, E_not, E_ite, E_lst, E_tup, E_ix, E_slc, E_rev, E_call, E_blt, E_isa, E_mth, E_lc, E_lrng, evA, evF, evS, evP, evIt, evCs, Out.z, Out.o, Out.t, bind_ok, bind_exc, bind_stuck, w_ok, w_exc, w_stuck, then_nx, then_rt, then_exc, then_stuck, Out.noX, wipeR_cons, wipeR_nil, backR_cons, backR_nil, backS_sh, backS_un, spoilS, clampS, Fl.top_hit, Fl.mk_hit, Fl.top_clamp, frz, frzs, opd, look, looks, rv, res, bin, bltD, cmpD, tru, ixD_l, ixD_t, nrm, imm, imms, Sd.ofOpt, setTs, setTg, Fl.top_top, Fl.at_eq, Fl.top_join, Fl.join_top, Fl.join_mk, Fl.top_lo, Nat.reduceLeDiff, seqOf_l, seqOf_t, asgS, backF, byName_nil, endW, List.getElem?_cons_succ, List.getElem?_cons_zero, List.set_cons_succ, List.set_cons_zero, List.length_cons, List.length_nil, List.length_map, List.length_append, List.map_cons, List.map_nil, Option.map_some, Option.map_none, if_true, if_false, ite_true, ite_false, Bool.false_eq_true, Bool.true_eq_false, Bool.not_true, Bool.not_false, Bool.true_and, Bool.false_and, Bool.and_true, Bool.and_false, Bool.true_or, Bool.false_or, Bool.or_true, Bool.or_false, decide_true, decide_false, startR_eq, List.replicate_succ, List.replicate_zero, List.append_nil, Nat.reduceAdd, Nat.reduceSub, Nat.sub_self, List.cons_append, List.nil_append, Option.getD_some, Option.getD_none, Option.bind_some, reduceIte, reduceCtorEq, hN, isTy, List.any_cons, List.any_nil, FwS, RtQ, eqOk_bl, eqD_bl, eqOk_int, eqD_int, beq_self_eq_true]
    (repeat' (first | trivial | rfl | apply And.intro))
  | k, .str b, n, s, h => by
    have h : PyData.strOk b = true := by cases k <;> simpa only [smOk] using h
    refine callF_rt hP rfl ?_
    simp only [sameI]
    simp only [L_nil, L_cons, S_expr, S_asg, S_asgT, S_par, S_parO, N_nil, N_tt, N_ff, setRs, S_setIx, S_ret, S_retN, S_ite, S_for, S_while, S_pass, S_scope, S_spoil, E_non, E_bl, E_int, E_str, E_var, E_op2, E_neg, E_cmp, E_isN, E_notN, E_chn, E_and, E_or, E_not, E_ite, E_lst, E_tup, E_ix, E_slc, E_rev, E_call, E_blt, E_isa, E_mth, E_lc, E_lrng, evA, evF, evS, evP, evIt, evCs, Out.z, Out.o, Out.t, bind_ok, bind_exc, bind_stuck, w_ok, w_exc, w_stuck, then_nx, then_rt, then_exc, then_stuck, Out.noX, wipeR_cons, wipeR_nil, backR_cons, backR_nil, backS_sh, backS_un, spoilS, clampS, Fl.top_hit, Fl.mk_hit, Fl.top_clamp, frz, frzs, opd, look, looks, rv, res, bin, bltD, cmpD, tru, ixD_l, ixD_t, nrm, imm, imms, Sd.ofOpt, setTs, setTg, Fl.top_top, Fl.at_eq, Fl.top_join, Fl.join_top, Fl.join_mk, Fl.top_lo, Nat.reduceLeDiff, seqOf_l, seqOf_t, asgS, backF, byName_nil, endW, List.getElem?_cons_succ, List.getElem?_cons_zero, List.set_cons_succ, List.set_cons_zero, List.length_cons, List.length_nil, List.length_map, List.length_append, List.map_cons, List.map_nil, Option.map_some, Option.map_none, if_true, if_false, ite_true, ite_false, Bool.false_eq_true, Bool.true_eq_false, Bool.not_true, Bool.not_false, Bool.true_and, Bool.false_and, Bool.and_true, Bool.and_false, Bool.true_or, Bool.false_or, Bool.or_true, Bool.or_false, decide_true, decide_false, startR_eq, List.replicate_succ, List.replicate_zero, List.append_nil, Nat.reduceAdd, Nat.reduceSub, Nat.sub_self, List.cons_append, List.nil_append, Option.getD_some, Option.getD_none, Option.bind_some, reduceIte, reduceCtorEq, hN, isTy, List.any_cons, List.any_nil, FwS, RtQ, eqOk_bl, eqD_bl, eqOk_str, eqD_str, beq_self_eq_true, h]
    (repeat' (first | trivial | rfl | apply And.intro))
  | k + 1, .lst xs, n, s, h => by
    simp only [smOk, Bool.and_eq_true, decide_eq_true_eq] at h
    have ih : ∀ x ∈ xs, callF P (n + k + 1) "_law_same" [x, x] s = some (.inl (Fl.top, .bl true, s)) := fun x hx => same_refl hN hP sg k x n s (smOks_mem h.2 hx)
    rw [show n + (k + 1) + 1 = n + k + 1 + 1 by omega]
    refine callF_rt hP rfl ?_
    simp only [sameI]
    simp only [L_nil, L_cons, S_expr, S_asg, S_asgT, S_par, S_parO, N_nil, N_tt, N_ff, setRs, S_setIx, S_ret, S_retN, S_ite, S_for, S_while, S_pass, S_scope, S_spoil, E_non, E_bl, E_int, E_str, E_var, E_op2, E_neg, E_cmp, E_isN, E_notN, E_chn, E_and, E_or, E_not, E_ite, E_lst, E_tup, E_ix, E_slc, E_rev, E_call, E_blt, E_isa, E_mth, E_lc, E_lrng, evA, evF, evS, evP, evIt, evCs, Out.z, Out.o, Out.t, bind_ok, bind_exc, bind_stuck, w_ok, w_exc, w_stuck, then_nx, then_rt, then_exc, then_stuck, Out.noX, wipeR_cons, wipeR_nil, backR_cons, backR_nil, backS_sh, backS_un, spoilS, clampS, Fl.top_hit, Fl.mk_hit, Fl.top_clamp, frz, frzs, opd, look, looks, rv, res, bin, bltD, cmpD, tru, ixD_l, ixD_t, nrm, imm, imms, Sd.ofOpt, setTs, setTg, Fl.top_top, Fl.at_eq, Fl.top_join, Fl.join_top, Fl.join_mk, Fl.top_lo, Nat.reduceLeDiff, seqOf_l, seqOf_t, asgS, backF, byName_nil, endW, List.getElem?_cons_succ, List.getElem?_cons_zero, List.set_cons_succ, List.set_cons_zero, List.length_cons, List.length_nil, List.length_map, List.length_append, List.map_cons, List.map_nil, Option.map_some, Option.map_none, if_true, if_false, ite_true, ite_false, Bool.false_eq_true, Bool.true_eq_false, Bool.not_true, Bool.not_false, Bool.true_and, Bool.false_and, Bool.and_true, Bool.and_false, Bool.true_or, Bool.false_or, Bool.or_true, Bool.or_false, decide_true, decide_false, startR_eq, List.replicate_succ, List.replicate_zero, List.append_nil, Nat.reduceAdd, Nat.reduceSub, Nat.sub_self, List.cons_append, List.nil_append, Option.getD_some, Option.getD_none, Option.bind_some, reduceIte, reduceCtorEq, hN, isTy, List.any_cons, List.any_nil, FwS, RtQ, eqOk_bl, eqD_bl, eqOk_int, eqD_int, beq_self_eq_true, bne_self_eq_false, zipD_self]
    rw [lcD_map xs (fun x => .tup [x, x]) (fun _ => .bl true) h.1 rfl ?h1]
    case h1 =>
      intro x hx
      simp only [lcT]
      simp only [L_nil, L_cons, S_expr, S_asg, S_asgT, S_par, S_parO, N_nil, N_tt, N_ff, setRs, S_setIx, S_ret, S_retN, S_ite, S_for, S_while, S_pass, S_scope, S_spoil, E_non, E_bl, E_int, E_str, E_var, E_op2, E_neg, E_cmp, E_isN, E_notN, E_chn, E_and, E_or, E_not, E_ite, E_lst, E_tup, E_ix, E_slc, E_rev, E_call, E_blt, E_isa, E_mth, E_lc, E_lrng, evA, evF, evS, evP, evIt, evCs, Out.z, Out.o, Out.t, bind_ok, bind_exc, bind_stuck, w_ok, w_exc, w_stuck, then_nx, then_rt, then_exc, then_stuck, Out.noX, wipeR_cons, wipeR_nil, backR_cons, backR_nil, backS_sh, backS_un, spoilS, clampS, Fl.top_hit, Fl.mk_hit, Fl.top_clamp, frz, frzs, opd, look, looks, rv, res, bin, bltD, cmpD, tru, ixD_l, ixD_t, nrm, imm, imms, Sd.ofOpt, setTs, setTg, Fl.top_top, Fl.at_eq, Fl.top_join, Fl.join_top, Fl.join_mk, Fl.top_lo, Nat.reduceLeDiff, seqOf_l, seqOf_t, asgS, backF, byName_nil, endW, List.getElem?_cons_succ, List.getElem?_cons_zero, List.set_cons_succ, List.set_cons_zero, List.length_cons, List.length_nil, List.length_map, List.length_append, List.map_cons, List.map_nil, Option.map_some, Option.map_none, if_true, if_false, ite_true, ite_false, Bool.false_eq_true, Bool.true_eq_false, Bool.not_true, Bool.not_false, Bool.true_and, Bool.false_and, Bool.and_true, Bool.and_false, Bool.true_or, Bool.false_or, Bool.or_true, Bool.or_false, decide_true, decide_false, startR_eq, List.replicate_succ, List.replicate_zero, List.append_nil, Nat.reduceAdd, Nat.reduceSub, Nat.sub_self, List.cons_append, List.nil_append, Option.getD_some, Option.getD_none, Option.bind_some, reduceIte, reduceCtorEq, sg, ih x hx, TuOk]
      (repeat' (first | trivial | rfl | apply And.intro))
    have e : (xs.map fun _ => D.bl true) = (xs.map fun _ => true).map D.bl := by simp
    rw [e]
    simp only [L_nil, L_cons, S_expr, S_asg, S_asgT, S_par, S_parO, N_nil, N_tt, N_ff, setRs, S_setIx, S_ret, S_retN, S_ite, S_for, S_while, S_pass, S_scope, S_spoil, E_non, E_bl, E_int, E_str, E_var, E_op2, E_neg, E_cmp, E_isN, E_notN, E_chn, E_and, E_or, E_not, E_ite, E_lst, E_tup, E_ix, E_slc, E_rev, E_call, E_blt, E_isa, E_mth, E_lc, E_lrng, evA, evF, evS, evP, evIt, evCs, Out.z, Out.o, Out.t, bind_ok, bind_exc, bind_stuck, w_ok, w_exc, w_stuck, then_nx, then_rt, then_exc, then_stuck, Out.noX, wipeR_cons, wipeR_nil, backR_cons, backR_nil, backS_sh, backS_un, spoilS, clampS, Fl.top_hit, Fl.mk_hit, Fl.top_clamp, frz, frzs, opd, look, looks, rv, res, bin, bltD, cmpD, tru, ixD_l, ixD_t, nrm, imm, imms, Sd.ofOpt, setTs, setTg, Fl.top_top, Fl.at_eq, Fl.top_join, Fl.join_top, Fl.join_mk, Fl.top_lo, Nat.reduceLeDiff, seqOf_l, seqOf_t, asgS, backF, byName_nil, endW, List.getElem?_cons_succ, List.getElem?_cons_zero, List.set_cons_succ, List.set_cons_zero, List.length_cons, List.length_nil, List.length_map, List.length_append, List.map_cons, List.map_nil, Option.map_some, Option.map_none, if_true, if_false, ite_true, ite_false, Bool.false_eq_true, Bool.true_eq_false, Bool.not_true, Bool.not_false, Bool.true_and, Bool.false_and, Bool.and_true, Bool.and_false, Bool.true_or, Bool.false_or, Bool.or_true, Bool.or_false, decide_true, decide_false, startR_eq, List.replicate_succ, List.replicate_zero, List.append_nil, Nat.reduceAdd, Nat.reduceSub, Nat.sub_self, List.cons_append, List.nil_append, Option.getD_some, Option.getD_none, Option.bind_some, reduceIte, reduceCtorEq, blsOf_map, all_true]
    (repeat' (first | trivial | rfl | apply And.intro))
  | k + 1, .tup xs, n, s, h => by
    simp only [smOk, Bool.and_eq_true, decide_eq_true_eq] at h
    have ih : ∀ x ∈ xs, callF P (n + k + 1) "_law_same" [x, x] s = some (.inl (Fl.top, .bl true, s)) := fun x hx => same_refl hN hP sg k x n s (smOks_mem h.2 hx)
    rw [show n + (k + 1) + 1 = n + k + 1 + 1 by omega]
    refine callF_rt hP rfl ?_
    simp only [sameI]
    simp only [L_nil, L_cons, S_expr, S_asg, S_asgT, S_par, S_parO, N_nil, N_tt, N_ff, setRs, S_setIx, S_ret, S_retN, S_ite, S_for, S_while, S_pass, S_scope, S_spoil, E_non, E_bl, E_int, E_str, E_var, E_op2, E_neg, E_cmp, E_isN, E_notN, E_chn, E_and, E_or, E_not, E_ite, E_lst, E_tup, E_ix, E_slc, E_rev, E_call, E_blt, E_isa, E_mth, E_lc, E_lrng, evA, evF, evS, evP, evIt, evCs, Out.z, Out.o, Out.t, bind_ok, bind_exc, bind_stuck, w_ok, w_exc, w_stuck, then_nx, then_rt, then_exc, then_stuck, Out.noX, wipeR_cons, wipeR_nil, backR_cons, backR_nil, backS_sh, backS_un, spoilS, clampS, Fl.top_hit, Fl.mk_hit, Fl.top_clamp, frz, frzs, opd, look, looks, rv, res, bin, bltD, cmpD, tru, ixD_l, ixD_t, nrm, imm, imms, Sd.ofOpt, setTs, setTg, Fl.top_top, Fl.at_eq, Fl.top_join, Fl.join_top, Fl.join_mk, Fl.top_lo, Nat.reduceLeDiff, seqOf_l, seqOf_t, asgS, backF, byName_nil, endW, List.getElem?_cons_succ, List.getElem?_cons_zero, List.set_cons_succ, List.set_cons_zero, List.length_cons, List.length_nil, List.length_map, List.length_append, List.map_cons, List.map_nil, Option.map_some, Option.map_none, if_true, if_false, ite_true, ite_false, Bool.false_eq_true, Bool.true_eq_false, Bool.not_true, Bool.not_false, Bool.true_and, Bool.false_and, Bool.and_true, Bool.and_false, Bool.true_or, Bool.false_or, Bool.or_true, Bool.or_false, decide_true, decide_false, startR_eq, List.replicate_succ, List.replicate_zero, List.append_nil, Nat.reduceAdd, Nat.reduceSub, Nat.sub_self, List.cons_append, List.nil_append, Option.getD_some, Option.getD_none, Option.bind_some, reduceIte, reduceCtorEq, hN, isTy, List.any_cons, List.any_nil, FwS, RtQ, eqOk_bl, eqD_bl, eqOk_int, eqD_int, beq_self_eq_true, bne_self_eq_false, zipD_self]
    rw [lcD_map xs (fun x => .tup [x, x]) (fun _ => .bl true) h.1 rfl ?h1]
    case h1 =>
      intro x hx
      simp only [lcT]
      simp only [L_nil, L_cons, S_expr, S_asg, S_asgT, S_par, S_parO, N_nil, N_tt, N_ff, setRs, S_setIx, S_ret, S_retN, S_ite, S_for, S_while, S_pass, S_scope, S_spoil, E_non, E_bl, E_int, E_str, E_var, E_op2, E_neg, E_cmp, E_isN, E_notN, E_chn, E_and, E_or, E_not, E_ite, E_lst, E_tup, E_ix, E_slc, E_rev, E_call, E_blt, E_isa, E_mth, E_lc, E_lrng, evA, evF, evS, evP, evIt, evCs, Out.z, Out.o, Out.t, bind_ok, bind_exc, bind_stuck, w_ok, w_exc, w_stuck, then_nx, then_rt, then_exc, then_stuck, Out.noX, wipeR_cons, wipeR_nil, backR_cons, backR_nil, backS_sh, backS_un, spoilS, clampS, Fl.top_hit, Fl.mk_hit, Fl.top_clamp, frz, frzs, opd, look, looks, rv, res, bin, bltD, cmpD, tru, ixD_l, ixD_t, nrm, imm, imms, Sd.ofOpt, setTs, setTg, Fl.top_top, Fl.at_eq, Fl.top_join, Fl.join_top, Fl.join_mk, Fl.top_lo, Nat.reduceLeDiff, seqOf_l, seqOf_t, asgS, backF, byName_nil, endW, List.getElem?_cons_succ, List.getElem?_cons_zero, List.set_cons_succ, List.set_cons_zero, List.length_cons, List.length_nil, List.length_map, List.length_append, List.map_cons, List.map_nil, Option.map_some, Option.map_none, if_true, if_false, ite_true, ite_false, Bool.false_eq_true, Bool.true_eq_false, Bool.not_true, Bool.not_false, Bool.true_and, Bool.false_and, Bool.and_true, Bool.and_false, Bool.true_or, Bool.false_or, Bool.or_true, Bool.or_false, decide_true, decide_false, startR_eq, List.replicate_succ, List.replicate_zero, List.append_nil, Nat.reduceAdd, Nat.reduceSub, Nat.sub_self, List.cons_append, List.nil_append, Option.getD_some, Option.getD_none, Option.bind_some, reduceIte, reduceCtorEq, sg, ih x hx, TuOk]
      (repeat' (first | trivial | rfl | apply And.intro))
    have e : (xs.map fun _ => D.bl true) = (xs.map fun _ => true).map D.bl := by simp
    rw [e]
    simp only [L_nil, L_cons, S_expr, S_asg, S_asgT, S_par, S_parO, N_nil, N_tt, N_ff, setRs, S_setIx, S_ret, S_retN, S_ite, S_for, S_while, S_pass, S_scope, S_spoil, E_non, E_bl, E_int, E_str, E_var, E_op2, E_neg, E_cmp, E_isN, E_notN, E_chn, E_and, E_or, E_not, E_ite, E_lst, E_tup, E_ix, E_slc, E_rev, E_call, E_blt, E_isa, E_mth, E_lc, E_lrng, evA, evF, evS, evP, evIt, evCs, Out.z, Out.o, Out.t, bind_ok, bind_exc, bind_stuck, w_ok, w_exc, w_stuck, then_nx, then_rt, then_exc, then_stuck, Out.noX, wipeR_cons, wipeR_nil, backR_cons, backR_nil, backS_sh, backS_un, spoilS, clampS, Fl.top_hit, Fl.mk_hit, Fl.top_clamp, frz, frzs, opd, look, looks, rv, res, bin, bltD, cmpD, tru, ixD_l, ixD_t, nrm, imm, imms, Sd.ofOpt, setTs, setTg, Fl.top_top, Fl.at_eq, Fl.top_join, Fl.join_top, Fl.join_mk, Fl.top_lo, Nat.reduceLeDiff, seqOf_l, seqOf_t, asgS, backF, byName_nil, endW, List.getElem?_cons_succ, List.getElem?_cons_zero, List.set_cons_succ, List.set_cons_zero, List.length_cons, List.length_nil, List.length_map, List.length_append, List.map_cons, List.map_nil, Option.map_some, Option.map_none, if_true, if_false, ite_true, ite_false, Bool.false_eq_true, Bool.true_eq_false, Bool.not_true, Bool.not_false, Bool.true_and, Bool.false_and, Bool.and_true, Bool.and_false, Bool.true_or, Bool.false_or, Bool.or_true, Bool.or_false, decide_true, decide_false, startR_eq, List.replicate_succ, List.replicate_zero, List.append_nil, Nat.reduceAdd, Nat.reduceSub, Nat.sub_self, List.cons_append, List.nil_append, Option.getD_some, Option.getD_none, Option.bind_some, reduceIte, reduceCtorEq, blsOf_map, all_true]
    (repeat' (first | trivial | rfl | apply And.intro))
  | 0, .lst xs, n, s, h => by simp [smOk] at h
  | 0, .tup xs, n, s, h => by simp [smOk] at h
  | k, .dic _ _, n, s, h => by cases k <;> simp [smOk] at h
  | k, .stm _, n, s, h => by cases k <;> simp [smOk] at h
def pickI : List IS := [(.ret (.ix (.var 1) (.call "_law_draw" [(.var 0), (.blt .len [(.var 1)])] [] [])))]
theorem atD_nat {xs : List D} {i : Nat} {d : D} (h : xs[i]? = some d) : atD xs (i : Int) = some d := L2.atI_nat h
theorem call_pickD {P : Pg} {N : List Str} (hN : N.length = 2) (hD : List.lookup nDraw (P : List (Str × Fd)) = none) (sD : sgOf P nDraw = (["stream", "many"] : List Str)) (hP : List.lookup ("_law_pick" : Str) (P : List (Str × Fd)) = some ⟨["stream", "things"], N, pickI⟩) {n k : Nat} {t : Stm} {xs : List D} (ht : StmOk (k + 1) t) (h1 : xs ≠ []) (h2 : xs.length < 1000000) :
    ∃ x t', callF P (n + 2) "_law_pick" [.stm 0, .lst xs] [t] = some (.inl (nrm x ⟨0, 0⟩, x, [t'])) ∧ x ∈ xs ∧ StmOk k t' := by
  have hl : 0 < xs.length := List.length_pos_iff.mpr h1
  obtain ⟨i, t', e, a, b, c⟩ := call_draw (n := n) hD ht (many := (xs.length : Int)) (by omega) (by omega)
  obtain ⟨j, rfl⟩ : ∃ j : Nat, i = (j : Int) := ⟨i.toNat, by omega⟩
  have hi : j < xs.length := by omega
  refine ⟨xs[j], t', ?_, List.getElem_mem _, c⟩
  have ea : atD xs (j : Int) = some xs[j] := atD_nat (by simp)
  refine callF_rt hP rfl ?_
  simp only [pickI]
  unfold nDraw at e sD
  simp only [L_nil, L_cons, S_expr, S_asg, S_asgT, S_par, S_parO, N_nil, N_tt, N_ff, setRs, S_setIx, S_ret, S_retN, S_ite, S_for, S_while, S_pass, S_scope, S_spoil, E_non, E_bl, E_int, E_str, E_var, E_op2, E_neg, E_cmp, E_isN, E_notN, E_chn, E_and, E_or, E_not, E_ite, E_lst, E_tup, E_ix, E_slc, E_rev, E_call, E_blt, E_isa, E_mth, E_lc, E_lrng, evA, evF, evS, evP, evIt, evCs, Out.z, Out.o, Out.t, bind_ok, bind_exc, bind_stuck, w_ok, w_exc, w_stuck, then_nx, then_rt, then_exc, then_stuck, Out.noX, wipeR_cons, wipeR_nil, backR_cons, backR_nil, backS_sh, backS_un, spoilS, clampS, Fl.top_hit, Fl.mk_hit, Fl.top_clamp, frz, frzs, opd, look, looks, rv, res, bin, bltD, cmpD, tru, ixD_l, ixD_t, nrm, imm, imms, Sd.ofOpt, setTs, setTg, Fl.top_top, Fl.at_eq, Fl.top_join, Fl.join_top, Fl.join_mk, Fl.top_lo, Nat.reduceLeDiff, seqOf_l, seqOf_t, asgS, backF, byName_nil, endW, List.getElem?_cons_succ, List.getElem?_cons_zero, List.set_cons_succ, List.set_cons_zero, List.length_cons, List.length_nil, List.length_map, List.length_append, List.map_cons, List.map_nil, Option.map_some, Option.map_none, if_true, if_false, ite_true, ite_false, Bool.false_eq_true, Bool.true_eq_false, Bool.not_true, Bool.not_false, Bool.true_and, Bool.false_and, Bool.and_true, Bool.and_false, Bool.true_or, Bool.false_or, Bool.or_true, Bool.or_false, decide_true, decide_false, startR_eq, List.replicate_succ, List.replicate_zero, List.append_nil, Nat.reduceAdd, Nat.reduceSub, Nat.sub_self, List.cons_append, List.nil_append, Option.getD_some, Option.getD_none, Option.bind_some, reduceIte, reduceCtorEq, hN, sD, e, ea, FwS, RtQ]
  by_cases hh : imm xs[j] = true
  · simp only [hh, if_true]; (repeat' (first | trivial | rfl | apply And.intro))
  · simp only [hh, if_false]; (repeat' (first | trivial | rfl | apply And.intro))
theorem call_pick {P : Pg} {N : List Str} (hN : N.length = 2) (hD : List.lookup nDraw (P : List (Str × Fd)) = none) (sD : sgOf P nDraw = (["stream", "many"] : List Str)) (hP : List.lookup ("_law_pick" : Str) (P : List (Str × Fd)) = some ⟨["stream", "things"], N, pickI⟩) {n k : Nat} {t : Stm} {xs : List Int} (ht : StmOk (k + 1) t) (h1 : xs ≠ []) (h2 : xs.length < 1000000) :
    ∃ x t', callF P (n + 2) "_law_pick" [.stm 0, .lst (xs.map .int)] [t] = some (.inl (Fl.top, .int x, [t'])) ∧ x ∈ xs ∧ StmOk k t' := by
  obtain ⟨x, t', e, a, b⟩ := call_pickD hN hD sD hP (n := n) (xs := xs.map D.int) ht (by simpa using h1) (by simpa using h2)
  obtain ⟨i, hi, rfl⟩ := List.mem_map.mp a
  exact ⟨i, t', e, hi, b⟩
end Sd

/-! Sz: the text of plain data is a text that == serves. -/
namespace Sd
open PySem
theorem tOk_of (s : String) : PyData.strOk (Str.ofString s) = true := by
  rw [Str.ofString_eq_toList]
  unfold PyData.strOk
  rw [Array.all_eq_true_iff_forall_mem]
  intro c hc
  simp only [List.mem_toArray, List.mem_map] at hc
  obtain ⟨a, _, rfl⟩ := hc
  have := a.valid
  simp only [decide_eq_true_eq]
  rcases this with h | h
  · show a.val.toNat < _; omega
  · show a.val.toNat < _; omega
theorem tOk_app {a b : Str} (h : PyData.strOk a = true) (k : PyData.strOk b = true) : PyData.strOk (a ++ b) = true := by
  unfold PyData.strOk at h k ⊢
  show (a.cps ++ b.cps).all _ = true
  rw [Array.all_append, h, k]; rfl
theorem tOk_from : ∀ (ts : List Str) (k : Nat) (acc : Str), PyData.strOk acc = true → (∀ t ∈ ts, PyData.strOk t = true) → PyData.strOk (textFrom k acc ts) = true
  | [], _, _, h, _ => h
  | t :: ts, k, acc, h, ht => tOk_from ts (k + 1) _ (tOk_app (tOk_app h (tOk_of _)) (ht t List.mem_cons_self)) fun x hx => ht x (List.mem_cons_of_mem _ hx)
theorem tOk_join : ∀ (ts : List Str), (∀ t ∈ ts, PyData.strOk t = true) → PyData.strOk (Str.join ", " ts) = true
  | [], _ => by unfold Str.join Str.empty PyData.strOk; simp
  | [t], h => h t List.mem_cons_self
  | t :: u :: ts, h => tOk_app (tOk_app (h t List.mem_cons_self) (tOk_of _)) (tOk_join (u :: ts) fun x hx => h x (List.mem_cons_of_mem _ hx))
mutual
/-- no text in it -/
def txtless : D → Bool
  | .str _ => false
  | .lst xs => txtlessA xs
  | .tup xs => txtlessA xs
  | _ => true
def txtlessA : List D → Bool
  | [] => true
  | d :: ds => txtless d && txtlessA ds
end
mutual
theorem shown_ok : ∀ d : D, txtless d = true → PyData.strOk (toPy d).shown = true
  | .non, _ => by simp only [toPy, PyData.shown]; exact tOk_of _
  | .bl b, _ => by simp only [toPy, PyData.shown]; cases b <;> exact tOk_of _
  | .int i, _ => by simp only [toPy, PyData.shown]; exact tOk_of _
  | .str _, h => by simp [txtless] at h
  | .lst xs, h => by
    simp only [toPy, PyData.shown]
    unfold listText
    exact tOk_app (tOk_from _ _ _ (tOk_of _) (shown_oks xs (by simpa only [txtless] using h))) (tOk_of _)
  | .tup xs, h => by
    simp only [toPy, PyData.shown]
    unfold tupleText
    exact tOk_app (tOk_app (tOk_of _) (tOk_join _ (shown_oks xs (by simpa only [txtless] using h)))) (tOk_of _)
  | .dic _ _, _ => by simp only [toPy, PyData.shown]; exact tOk_of _
  | .stm _, _ => by simp only [toPy, PyData.shown]; exact tOk_of _
  | .obj _, _ => by simp only [toPy, PyData.shown]; exact tOk_of _
theorem shown_oks : ∀ ds : List D, txtlessA ds = true → ∀ t ∈ PyData.shownAll (toPys ds), PyData.strOk t = true
  | [], _ => by simp only [toPys, PyData.shownAll]; exact fun _ h => nomatch h
  | d :: ds, h => by
    simp only [txtlessA, Bool.and_eq_true] at h
    simp only [toPys, PyData.shownAll]
    intro t ht
    rcases List.mem_cons.mp ht with rfl | ht
    · exact shown_ok d h.1
    · exact shown_oks ds h.2 t ht
end
end Sd

namespace Lk76
open PySem Sd
def nD (ps : List Nat) : List D := ps.map fun (p : Nat) => D.int (p : Int)
/-- a list or a tuple -/
def sq : Bool → List D → D
  | true, xs => .lst xs
  | false, xs => .tup xs
/-! ### the first two in one part -/
def findJ (q : Nat → Nat) (i : Nat) : List Nat → Option (Nat × Nat)
  | [] => none
  | j :: js => if q i = q j then some (i, j) else findJ q i js
def findI (q : Nat → Nat) (m : Nat) : List Nat → Option (Nat × Nat)
  | [] => none
  | i :: is => match findJ q i ((List.range (m - (i + 1))).map fun k => i + 1 + k) with
    | some p => some p
    | none => findI q m is
def clashQ (q : Nat → Nat) (m : Nat) : Option (Nat × Nat) := findI q m (List.range m)
def part (B : Nat) (ps : List Nat) (m : Nat) (i : Nat) : Nat := ps.getD i 0 * m / B
def clash (B : Nat) (ps : List Nat) (m : Nat) : Option (Nat × Nat) := clashQ (part B ps m) m
def optP : Option (Nat × Nat) → D
  | none => .non
  | some (i, j) => .tup [.int (i : Int), .int (j : Int)]
theorem cut_take {xs : List D} {m : Nat} (h : m ≤ xs.length) : cutD xs none (some (m : Int)) = xs.take m := by
  unfold cutD
  rw [show HT.sIx xs.length 0 none = 0 from HT.sIx_none .., show HT.sIx xs.length xs.length (some (m : Int)) = min m xs.length from HT.sIx_nat ..]
  rw [List.drop_zero, Nat.sub_zero, Nat.min_eq_left h]
theorem rngD_two {a b : Nat} (ha : a ≤ SZ) (hb : b ≤ SZ) : rngD [.int (a : Int), .int (b : Int)] = some ((List.range (b - a)).map fun (k : Nat) => D.int ((a + k : Nat) : Int)) := by
  have h : (rOk (a : Int) && rOk (b : Int) && dOk (a : Int) (b : Int)) = true := by rw [Bool.and_eq_true, Bool.and_eq_true, rOk_iff, rOk_iff, dOk_iff]; omega
  simp only [rngD, if_pos h]
  have e : ((b : Int) - (a : Int)).toNat = b - a := by omega
  rw [e]
  simp
theorem atD_nD {ps : List Nat} {i : Nat} (h : i < ps.length) : atD (nD ps) (i : Int) = some (.int ((ps.getD i 0 : Nat) : Int)) := by
  refine L2.atI_nat ?_
  unfold nD
  rw [List.getElem?_map, List.getElem?_eq_getElem h, List.getD_eq_getElem?_getD, List.getElem?_eq_getElem h]
  rfl
theorem nD_len {ps : List Nat} : (nD ps).length = ps.length := by unfold nD; simp
theorem mulN {a b : Nat} (ha : a ≤ 1000000) (hb : b ≤ 1000000) : mulOk (a : Int) (b : Int) = true := by
  have : (1000000 : Nat) < BIG := by unfold BIG; exact Nat.lt_of_lt_of_le (by decide : 1000000 < 2 ^ 200) (Nat.pow_le_pow_right (by decide) (by decide))
  simp only [mulOk, Bool.and_eq_true, decide_eq_true_eq, Int.natAbs_natCast]; omega
theorem divN {b : Nat} (h : 0 < b) (hb : b ≤ 1000000) : divOk (b : Int) = true := by
  have : (1000000 : Nat) < 2 ^ 9000 := Nat.lt_of_lt_of_le (by decide : 1000000 < 2 ^ 200) (Nat.pow_le_pow_right (by decide) (by decide))
  simp only [divOk, Bool.and_eq_true, decide_eq_true_eq, Int.natAbs_natCast]; omega
theorem beqN {a b : Nat} : ((a : Int) == (b : Int)) = decide (a = b) := by
  by_cases h : a = b
  · subst h; simp
  · have h2 : ¬ (a : Int) = (b : Int) := by omega
    simp [h, h2]
theorem eqOk_i {n : Nat} {a : Int} : eqOk n (.int a) = true := by cases n <;> simp only [eqOk]
theorem eqD_i {a b : Int} : eqD (.int a) (.int b) = (a == b) := by simp only [eqD]
def clI : List IS := [(.for [6] true (.rng [(.op2 .add (.var 5) (.int (1))), (.var 2)]) [(.ite (.cmp .eq (.ix (.var 3) (.var 5)) (.ix (.var 3) (.var 6))) [(.ret (.tup [(.var 5), (.var 6)]))] [])])]
/-- the inner loop, for what is known of the parts -/
theorem inner {cl : Caller} {sg : Sig} {qs : List Nat} {B P : D} {fP fA : Fl} {m i : Nat} (hm : m ≤ 1000) (hq : qs.length = m) (hi : i < m) (sl sr : Slot) {N : C → Prop} {Q : Fw → Prop} {s : List Stm} {is : List IS}
    (hN : ∀ sr', findJ (fun k => qs.getD k 0) i ((List.range (m - (i + 1))).map fun k => i + 1 + k) = none → FwS (xL cl sg 1 false is ⟨[.sh Fl.top B, .sh fP P, .sh Fl.top (.int (m : Int)), .sh fA (.lst (nD qs)), sl, .sh Fl.top (.int (i : Int)), sr'], s⟩) N Q)
    (hR : ∀ p c', findJ (fun k => qs.getD k 0) i ((List.range (m - (i + 1))).map fun k => i + 1 + k) = some p → c'.s = s → Q (.rt Fl.top (optP (some p)) c')) :
    FwS (xL cl sg 1 false (clI ++ is) ⟨[.sh Fl.top B, .sh fP P, .sh Fl.top (.int (m : Int)), .sh fA (.lst (nD qs)), sl, .sh Fl.top (.int (i : Int)), sr], s⟩) N Q := by
  have e1 : (i : Int) + 1 = ((i + 1 : Nat) : Int) := by omega
  have e2 : rngD [.int ((i + 1 : Nat) : Int), .int (m : Int)] = some ((List.range (m - (i + 1))).map fun (k : Nat) => D.int ((i + 1 + k : Nat) : Int)) := rngD_two (by unfold SZ; omega) (by unfold SZ; omega)
  unfold clI
  rw [List.singleton_append]
  refine L_for (f := Fl.top) (xs := (List.range (m - (i + 1))).map fun (k : Nat) => D.int ((i + 1 + k : Nat) : Int)) (c1 := ⟨[.sh Fl.top B, .sh fP P, .sh Fl.top (.int (m : Int)), .sh fA (.lst (nD qs)), sl, .sh Fl.top (.int (i : Int)), sr], s⟩)
    (fun xs c => ∃ js : List Nat, xs = js.map (fun (k : Nat) => D.int (k : Int)) ∧ (∀ j ∈ js, j < m) ∧ findJ (fun k => qs.getD k 0) i ((List.range (m - (i + 1))).map fun k => i + 1 + k) = findJ (fun k => qs.getD k 0) i js ∧ ∃ sr', c = ⟨[.sh Fl.top B, .sh fP P, .sh Fl.top (.int (m : Int)), .sh fA (.lst (nD qs)), sl, .sh Fl.top (.int (i : Int)), sr'], s⟩) ?_ ?_ ?_ ?_
  · exact It_rng (f := Fl.top) e2 (by simp only [L_nil, L_cons, S_expr, S_asg, S_asgT, S_par, S_parO, N_nil, N_tt, N_ff, setRs, S_setIx, S_ret, S_retN, S_ite, S_for, S_while, S_pass, S_scope, S_spoil, E_non, E_bl, E_int, E_str, E_var, E_op2, E_neg, E_cmp, E_isN, E_notN, E_chn, E_and, E_or, E_not, E_ite, E_lst, E_tup, E_ix, E_slc, E_rev, E_call, E_blt, E_isa, E_mth, E_lc, E_lrng, evA, evF, evS, evP, evIt, evCs, Out.z, Out.o, Out.t, bind_ok, bind_exc, bind_stuck, w_ok, w_exc, w_stuck, then_nx, then_rt, then_exc, then_stuck, Out.noX, wipeR_cons, wipeR_nil, backR_cons, backR_nil, backS_sh, backS_un, spoilS, clampS, Fl.top_hit, Fl.mk_hit, Fl.top_clamp, frz, frzs, opd, look, looks, rv, res, bin, bltD, cmpD, tru, ixD_l, ixD_t, nrm, imm, imms, Sd.ofOpt, setTs, setTg, Fl.top_top, Fl.at_eq, Fl.top_join, Fl.join_top, Fl.join_mk, Fl.top_lo, Nat.reduceLeDiff, seqOf_l, seqOf_t, asgS, backF, byName_nil, endW, List.getElem?_cons_succ, List.getElem?_cons_zero, List.set_cons_succ, List.set_cons_zero, List.length_cons, List.length_nil, List.length_map, List.length_append, List.map_cons, List.map_nil, Option.map_some, Option.map_none, if_true, if_false, ite_true, ite_false, Bool.false_eq_true, Bool.true_eq_false, Bool.not_true, Bool.not_false, Bool.true_and, Bool.false_and, Bool.and_true, Bool.and_false, Bool.true_or, Bool.false_or, Bool.or_true, Bool.or_false, decide_true, decide_false, startR_eq, List.replicate_succ, List.replicate_zero, List.append_nil, Nat.reduceAdd, Nat.reduceSub, Nat.sub_self, List.cons_append, List.nil_append, Option.getD_some, Option.getD_none, Option.bind_some, reduceIte, reduceCtorEq, e1])
  · refine ⟨(List.range (m - (i + 1))).map fun k => i + 1 + k, by rw [List.map_map]; rfl, fun j hj => ?_, rfl, sr, rfl⟩
    obtain ⟨k, hk, rfl⟩ := List.mem_map.mp hj
    have := List.mem_range.mp hk
    omega
  · rintro x xs c ⟨js, hjs, hlt, hf, sr', rfl⟩
    cases js with
    | nil => simp at hjs
    | cons j js =>
      simp only [List.map_cons, List.cons.injEq] at hjs
      obtain ⟨rfl, rfl⟩ := hjs
      have hj := hlt j List.mem_cons_self
      have a1 := atD_nD (ps := qs) (i := i) (by omega)
      have a2 := atD_nD (ps := qs) (i := j) (by omega)
      simp only [Sd.ofOpt, setTg, setTs, w_ok, if_true, if_false, Bool.false_eq_true, List.set_cons_succ, List.set_cons_zero, startR_eq, List.map_cons, List.map_nil, List.length_cons, List.length_nil, List.replicate_succ, List.replicate_zero, List.cons_append, List.nil_append, nrm, imm, Nat.reduceAdd, Nat.reduceSub]
      refine L_gen fun P' K hK hR' => ?_
      simp only [L_nil, L_cons, S_expr, S_asg, S_asgT, S_par, S_parO, N_nil, N_tt, N_ff, setRs, S_setIx, S_ret, S_retN, S_ite, S_for, S_while, S_pass, S_scope, S_spoil, E_non, E_bl, E_int, E_str, E_var, E_op2, E_neg, E_cmp, E_isN, E_notN, E_chn, E_and, E_or, E_not, E_ite, E_lst, E_tup, E_ix, E_slc, E_rev, E_call, E_blt, E_isa, E_mth, E_lc, E_lrng, evA, evF, evS, evP, evIt, evCs, Out.z, Out.o, Out.t, bind_ok, bind_exc, bind_stuck, w_ok, w_exc, w_stuck, then_nx, then_rt, then_exc, then_stuck, Out.noX, wipeR_cons, wipeR_nil, backR_cons, backR_nil, backS_sh, backS_un, spoilS, clampS, Fl.top_hit, Fl.mk_hit, Fl.top_clamp, frz, frzs, opd, look, looks, rv, res, bin, bltD, cmpD, tru, ixD_l, ixD_t, nrm, imm, imms, Sd.ofOpt, setTs, setTg, Fl.top_top, Fl.at_eq, Fl.top_join, Fl.join_top, Fl.join_mk, Fl.top_lo, Nat.reduceLeDiff, seqOf_l, seqOf_t, asgS, backF, byName_nil, endW, List.getElem?_cons_succ, List.getElem?_cons_zero, List.set_cons_succ, List.set_cons_zero, List.length_cons, List.length_nil, List.length_map, List.length_append, List.map_cons, List.map_nil, Option.map_some, Option.map_none, if_true, if_false, ite_true, ite_false, Bool.false_eq_true, Bool.true_eq_false, Bool.not_true, Bool.not_false, Bool.true_and, Bool.false_and, Bool.and_true, Bool.and_false, Bool.true_or, Bool.false_or, Bool.or_true, Bool.or_false, decide_true, decide_false, startR_eq, List.replicate_succ, List.replicate_zero, List.append_nil, Nat.reduceAdd, Nat.reduceSub, Nat.sub_self, List.cons_append, List.nil_append, Option.getD_some, Option.getD_none, Option.bind_some, reduceIte, reduceCtorEq, a1, a2, eqOk_i, eqD_i, beqN]
      by_cases hq2 : qs.getD i 0 = qs.getD j 0
      · rw [decide_eq_true hq2]
        simp only [L_nil, L_cons, S_expr, S_asg, S_asgT, S_par, S_parO, N_nil, N_tt, N_ff, setRs, S_setIx, S_ret, S_retN, S_ite, S_for, S_while, S_pass, S_scope, S_spoil, E_non, E_bl, E_int, E_str, E_var, E_op2, E_neg, E_cmp, E_isN, E_notN, E_chn, E_and, E_or, E_not, E_ite, E_lst, E_tup, E_ix, E_slc, E_rev, E_call, E_blt, E_isa, E_mth, E_lc, E_lrng, evA, evF, evS, evP, evIt, evCs, Out.z, Out.o, Out.t, bind_ok, bind_exc, bind_stuck, w_ok, w_exc, w_stuck, then_nx, then_rt, then_exc, then_stuck, Out.noX, wipeR_cons, wipeR_nil, backR_cons, backR_nil, backS_sh, backS_un, spoilS, clampS, Fl.top_hit, Fl.mk_hit, Fl.top_clamp, frz, frzs, opd, look, looks, rv, res, bin, bltD, cmpD, tru, ixD_l, ixD_t, nrm, imm, imms, Sd.ofOpt, setTs, setTg, Fl.top_top, Fl.at_eq, Fl.top_join, Fl.join_top, Fl.join_mk, Fl.top_lo, Nat.reduceLeDiff, seqOf_l, seqOf_t, asgS, backF, byName_nil, endW, List.getElem?_cons_succ, List.getElem?_cons_zero, List.set_cons_succ, List.set_cons_zero, List.length_cons, List.length_nil, List.length_map, List.length_append, List.map_cons, List.map_nil, Option.map_some, Option.map_none, if_true, if_false, ite_true, ite_false, Bool.false_eq_true, Bool.true_eq_false, Bool.not_true, Bool.not_false, Bool.true_and, Bool.false_and, Bool.and_true, Bool.and_false, Bool.true_or, Bool.false_or, Bool.or_true, Bool.or_false, decide_true, decide_false, startR_eq, List.replicate_succ, List.replicate_zero, List.append_nil, Nat.reduceAdd, Nat.reduceSub, Nat.sub_self, List.cons_append, List.nil_append, Option.getD_some, Option.getD_none, Option.bind_some, reduceIte, reduceCtorEq]
        have hf2 : findJ (fun k => qs.getD k 0) i (j :: js) = some (i, j) := by simp only [findJ]; exact if_pos hq2
        exact hR' _ _ _ (hR (i, j) _ (hf.trans hf2) rfl)
      · rw [decide_eq_false hq2]
        simp only [L_nil, L_cons, S_expr, S_asg, S_asgT, S_par, S_parO, N_nil, N_tt, N_ff, setRs, S_setIx, S_ret, S_retN, S_ite, S_for, S_while, S_pass, S_scope, S_spoil, E_non, E_bl, E_int, E_str, E_var, E_op2, E_neg, E_cmp, E_isN, E_notN, E_chn, E_and, E_or, E_not, E_ite, E_lst, E_tup, E_ix, E_slc, E_rev, E_call, E_blt, E_isa, E_mth, E_lc, E_lrng, evA, evF, evS, evP, evIt, evCs, Out.z, Out.o, Out.t, bind_ok, bind_exc, bind_stuck, w_ok, w_exc, w_stuck, then_nx, then_rt, then_exc, then_stuck, Out.noX, wipeR_cons, wipeR_nil, backR_cons, backR_nil, backS_sh, backS_un, spoilS, clampS, Fl.top_hit, Fl.mk_hit, Fl.top_clamp, frz, frzs, opd, look, looks, rv, res, bin, bltD, cmpD, tru, ixD_l, ixD_t, nrm, imm, imms, Sd.ofOpt, setTs, setTg, Fl.top_top, Fl.at_eq, Fl.top_join, Fl.join_top, Fl.join_mk, Fl.top_lo, Nat.reduceLeDiff, seqOf_l, seqOf_t, asgS, backF, byName_nil, endW, List.getElem?_cons_succ, List.getElem?_cons_zero, List.set_cons_succ, List.set_cons_zero, List.length_cons, List.length_nil, List.length_map, List.length_append, List.map_cons, List.map_nil, Option.map_some, Option.map_none, if_true, if_false, ite_true, ite_false, Bool.false_eq_true, Bool.true_eq_false, Bool.not_true, Bool.not_false, Bool.true_and, Bool.false_and, Bool.and_true, Bool.and_false, Bool.true_or, Bool.false_or, Bool.or_true, Bool.or_false, decide_true, decide_false, startR_eq, List.replicate_succ, List.replicate_zero, List.append_nil, Nat.reduceAdd, Nat.reduceSub, Nat.sub_self, List.cons_append, List.nil_append, Option.getD_some, Option.getD_none, Option.bind_some, reduceIte, reduceCtorEq]
        have hf2 : findJ (fun k => qs.getD k 0) i (j :: js) = findJ (fun k => qs.getD k 0) i js := by simp only [findJ]; exact if_neg hq2
        refine hK _ (L_end ⟨js, rfl, fun z hz => hlt z (List.mem_cons_of_mem _ hz), hf.trans hf2, _, rfl⟩)
  · rintro c ⟨js, hjs, _, hf, sr', rfl⟩
    cases js with
    | cons j js => simp at hjs
    | nil => exact hN sr' hf
theorem part_eq {B m : Nat} {ps : List Nat} {i : Nat} (hm : m ≤ ps.length) (hi : i < m) : (((ps.take m).map fun p => p * m / B).getD i 0) = part B ps m i := by
  unfold part
  rw [List.getD_eq_getElem?_getD, List.getD_eq_getElem?_getD, List.getElem?_map, List.getElem?_take, if_pos hi, List.getElem?_eq_getElem (by omega)]
  rfl
theorem findJ_cg {q r : Nat → Nat} {i : Nat} : ∀ {js : List Nat}, q i = r i → (∀ j ∈ js, q j = r j) → findJ q i js = findJ r i js
  | [], _, _ => rfl
  | j :: js, h, k => by
    simp only [findJ]
    rw [h, k j List.mem_cons_self, findJ_cg h fun z hz => k z (List.mem_cons_of_mem _ hz)]
theorem findI_cg {q r : Nat → Nat} {m : Nat} (h : ∀ i, i < m → q i = r i) : ∀ {is : List Nat}, (∀ i ∈ is, i < m) → findI q m is = findI r m is
  | [], _ => rfl
  | i :: is, k => by
    simp only [findI]
    rw [findJ_cg (h i (k i List.mem_cons_self)) (fun j hj => by
      obtain ⟨z, hz, rfl⟩ := List.mem_map.mp hj
      have := List.mem_range.mp hz
      exact h _ (by omega)), findI_cg h fun z hz => k z (List.mem_cons_of_mem _ hz)]
/-- points as they are served -/
structure Pts (B : Nat) (ps : List Nat) : Prop where
  b1 : 1 ≤ B
  b2 : B ≤ 1000
  n : ps.length ≤ 100
  p : ∀ q ∈ ps, q ≤ 1000
theorem c_first_clash (n : Nat) (b : Bool) (B m : Nat) (ps : List Nat) (h : Pts B ps) (hm : m ≤ ps.length) (s : List Stm) : callF Pr (n + 1) "first_clash" [.int (B : Int), sq b (nD ps), .int (m : Int)] s = some (.inl (Fl.top, optP (clash B ps m), s)) := by
  have hn := h.n
  have hb := h.b2
  have hd : divOk (B : Int) = true := divN h.b1 (by omega)
  have hsz : m ≤ SZ := by unfold SZ; omega
  have hcut : cutD (nD ps) none (some (m : Int)) = (ps.take m).map fun (p : Nat) => D.int (p : Int) := by
    rw [cut_take (by rw [nD_len]; exact hm)]
    unfold nD
    rw [List.map_take]
  have main : ∀ (P : D) (fP : Fl) (f' : Fl), FwS (xL (callF Pr n) (sgOf Pr) 1 false [(.for [5] true (.rng [(.var 2)]) clI), (.ret .non)] ⟨[.sh Fl.top (.int (B : Int)), .sh fP P, .sh Fl.top (.int (m : Int)), .sh f' (.lst (nD ((ps.take m).map fun p => p * m / B))), .un, .un, .un], s⟩) (fun c => Fl.top = Fl.top ∧ optP (clash B ps m) = .non ∧ c.s = s) (RtQ Fl.top (optP (clash B ps m)) s) := fun P fP f' => by
    have hq : ((ps.take m).map fun p => p * m / B).length = m := by rw [List.length_map, List.length_take]; omega
    have eq0 : clash B ps m = findI (fun k => ((ps.take m).map fun p => p * m / B).getD k 0) m (List.range m) := by
      unfold clash clashQ
      exact findI_cg (fun i hi => (part_eq hm hi).symm) fun i hi => List.mem_range.mp hi
    generalize (ps.take m).map (fun p => p * m / B) = qs at *
    refine L_for (f := Fl.top) (xs := (List.range m).map fun (k : Nat) => D.int (k : Int)) (c1 := ⟨[.sh Fl.top (.int (B : Int)), .sh fP P, .sh Fl.top (.int (m : Int)), .sh f' (.lst (nD qs)), .un, .un, .un], s⟩)
      (fun xs c => ∃ is : List Nat, xs = is.map (fun (k : Nat) => D.int (k : Int)) ∧ (∀ i ∈ is, i < m) ∧ clash B ps m = findI (fun k => qs.getD k 0) m is ∧ ∃ s5 s6, c = ⟨[.sh Fl.top (.int (B : Int)), .sh fP P, .sh Fl.top (.int (m : Int)), .sh f' (.lst (nD qs)), .un, s5, s6], s⟩) (It_rng (f := Fl.top) (rngD_nat hsz) (by simp only [L_nil, L_cons, S_expr, S_asg, S_asgT, S_par, S_parO, N_nil, N_tt, N_ff, setRs, S_setIx, S_ret, S_retN, S_ite, S_for, S_while, S_pass, S_scope, S_spoil, E_non, E_bl, E_int, E_str, E_var, E_op2, E_neg, E_cmp, E_isN, E_notN, E_chn, E_and, E_or, E_not, E_ite, E_lst, E_tup, E_ix, E_slc, E_rev, E_call, E_blt, E_isa, E_mth, E_lc, E_lrng, evA, evF, evS, evP, evIt, evCs, Out.z, Out.o, Out.t, bind_ok, bind_exc, bind_stuck, w_ok, w_exc, w_stuck, then_nx, then_rt, then_exc, then_stuck, Out.noX, wipeR_cons, wipeR_nil, backR_cons, backR_nil, backS_sh, backS_un, spoilS, clampS, Fl.top_hit, Fl.mk_hit, Fl.top_clamp, frz, frzs, opd, look, looks, rv, res, bin, bltD, cmpD, tru, ixD_l, ixD_t, nrm, imm, imms, Sd.ofOpt, setTs, setTg, Fl.top_top, Fl.at_eq, Fl.top_join, Fl.join_top, Fl.join_mk, Fl.top_lo, Nat.reduceLeDiff, seqOf_l, seqOf_t, asgS, backF, byName_nil, endW, List.getElem?_cons_succ, List.getElem?_cons_zero, List.set_cons_succ, List.set_cons_zero, List.length_cons, List.length_nil, List.length_map, List.length_append, List.map_cons, List.map_nil, Option.map_some, Option.map_none, if_true, if_false, ite_true, ite_false, Bool.false_eq_true, Bool.true_eq_false, Bool.not_true, Bool.not_false, Bool.true_and, Bool.false_and, Bool.and_true, Bool.and_false, Bool.true_or, Bool.false_or, Bool.or_true, Bool.or_false, decide_true, decide_false, startR_eq, List.replicate_succ, List.replicate_zero, List.append_nil, Nat.reduceAdd, Nat.reduceSub, Nat.sub_self, List.cons_append, List.nil_append, Option.getD_some, Option.getD_none, Option.bind_some, reduceIte, reduceCtorEq])) ⟨List.range m, rfl, fun i hi => List.mem_range.mp hi, eq0, _, _, rfl⟩ ?_ ?_
    · rintro x xs c ⟨is, his, hlt, hf, s5, s6, rfl⟩
      cases is with
      | nil => simp at his
      | cons i is =>
        simp only [List.map_cons, List.cons.injEq] at his
        obtain ⟨rfl, rfl⟩ := his
        have hi := hlt i List.mem_cons_self
        simp only [Sd.ofOpt, setTg, setTs, w_ok, if_true, if_false, Bool.false_eq_true, List.set_cons_succ, List.set_cons_zero, startR_eq, List.map_cons, List.map_nil, List.length_cons, List.length_nil, List.replicate_succ, List.replicate_zero, List.cons_append, List.nil_append, nrm, imm, Nat.reduceAdd, Nat.reduceSub]
        rw [← List.append_nil clI]
        refine inner (by omega) hq hi .un s6 (fun sr' hj => ?_) (fun p c' hj hs => ?_)
        · refine L_end ⟨is, rfl, fun z hz => hlt z (List.mem_cons_of_mem _ hz), ?_, _, _, rfl⟩
          rw [hf]; simp only [findI, hj]
        · refine ⟨rfl, ?_, hs⟩
          rw [hf]; simp only [findI, hj]
    · rintro c ⟨is, his, _, hf, s5, s6, rfl⟩
      cases is with
      | cons j js => simp at his
      | nil =>
        refine L_gen fun P' K hK hR => ?_
        simp only [L_nil, L_cons, S_expr, S_asg, S_asgT, S_par, S_parO, N_nil, N_tt, N_ff, setRs, S_setIx, S_ret, S_retN, S_ite, S_for, S_while, S_pass, S_scope, S_spoil, E_non, E_bl, E_int, E_str, E_var, E_op2, E_neg, E_cmp, E_isN, E_notN, E_chn, E_and, E_or, E_not, E_ite, E_lst, E_tup, E_ix, E_slc, E_rev, E_call, E_blt, E_isa, E_mth, E_lc, E_lrng, evA, evF, evS, evP, evIt, evCs, Out.z, Out.o, Out.t, bind_ok, bind_exc, bind_stuck, w_ok, w_exc, w_stuck, then_nx, then_rt, then_exc, then_stuck, Out.noX, wipeR_cons, wipeR_nil, backR_cons, backR_nil, backS_sh, backS_un, spoilS, clampS, Fl.top_hit, Fl.mk_hit, Fl.top_clamp, frz, frzs, opd, look, looks, rv, res, bin, bltD, cmpD, tru, ixD_l, ixD_t, nrm, imm, imms, Sd.ofOpt, setTs, setTg, Fl.top_top, Fl.at_eq, Fl.top_join, Fl.join_top, Fl.join_mk, Fl.top_lo, Nat.reduceLeDiff, seqOf_l, seqOf_t, asgS, backF, byName_nil, endW, List.getElem?_cons_succ, List.getElem?_cons_zero, List.set_cons_succ, List.set_cons_zero, List.length_cons, List.length_nil, List.length_map, List.length_append, List.map_cons, List.map_nil, Option.map_some, Option.map_none, if_true, if_false, ite_true, ite_false, Bool.false_eq_true, Bool.true_eq_false, Bool.not_true, Bool.not_false, Bool.true_and, Bool.false_and, Bool.and_true, Bool.and_false, Bool.true_or, Bool.false_or, Bool.or_true, Bool.or_false, decide_true, decide_false, startR_eq, List.replicate_succ, List.replicate_zero, List.append_nil, Nat.reduceAdd, Nat.reduceSub, Nat.sub_self, List.cons_append, List.nil_append, Option.getD_some, Option.getD_none, Option.bind_some, reduceIte, reduceCtorEq]
        refine hR _ _ _ ⟨rfl, ?_, rfl⟩
        rw [hf]; rfl
  have parts : ∀ (f : Fl) (P : D) (fP : Fl), lcD (callF Pr n) (sgOf Pr) 1 (.op2 .fdiv (.op2 .mul (.var 4) (.var 2)) (.var 0)) [4] true [] f ((ps.take m).map fun (p : Nat) => D.int (p : Int)) ⟨[.sh Fl.top (.int (B : Int)), .sh fP P, .sh Fl.top (.int (m : Int)), .un, .un, .un, .un], s⟩ = .ok (.new Fl.top (.lst (nD ((ps.take m).map fun p => p * m / B)))) ⟨[.sh Fl.top (.int (B : Int)), .sh fP P, .sh Fl.top (.int (m : Int)), .un, .un, .un, .un], s⟩ := fun f P fP => by
    rw [lcD_map (ps.take m) (fun (p : Nat) => D.int (p : Int)) (fun (p : Nat) => D.int ((p * m / B : Nat) : Int)) (by rw [List.length_take]; unfold SZ; omega) rfl ?h1]
    case h1 =>
      intro p hp
      have hp1 := h.p p (List.mem_of_mem_take hp)
      have m1 : mulOk (p : Int) (m : Int) = true := mulN (by omega) (by omega)
      have e : ((p : Int) * (m : Int)) / (B : Int) = ((p * m / B : Nat) : Int) := by norm_cast
      simp only [lcT]
      simp only [L_nil, L_cons, S_expr, S_asg, S_asgT, S_par, S_parO, N_nil, N_tt, N_ff, setRs, S_setIx, S_ret, S_retN, S_ite, S_for, S_while, S_pass, S_scope, S_spoil, E_non, E_bl, E_int, E_str, E_var, E_op2, E_neg, E_cmp, E_isN, E_notN, E_chn, E_and, E_or, E_not, E_ite, E_lst, E_tup, E_ix, E_slc, E_rev, E_call, E_blt, E_isa, E_mth, E_lc, E_lrng, evA, evF, evS, evP, evIt, evCs, Out.z, Out.o, Out.t, bind_ok, bind_exc, bind_stuck, w_ok, w_exc, w_stuck, then_nx, then_rt, then_exc, then_stuck, Out.noX, wipeR_cons, wipeR_nil, backR_cons, backR_nil, backS_sh, backS_un, spoilS, clampS, Fl.top_hit, Fl.mk_hit, Fl.top_clamp, frz, frzs, opd, look, looks, rv, res, bin, bltD, cmpD, tru, ixD_l, ixD_t, nrm, imm, imms, Sd.ofOpt, setTs, setTg, Fl.top_top, Fl.at_eq, Fl.top_join, Fl.join_top, Fl.join_mk, Fl.top_lo, Nat.reduceLeDiff, seqOf_l, seqOf_t, asgS, backF, byName_nil, endW, List.getElem?_cons_succ, List.getElem?_cons_zero, List.set_cons_succ, List.set_cons_zero, List.length_cons, List.length_nil, List.length_map, List.length_append, List.map_cons, List.map_nil, Option.map_some, Option.map_none, if_true, if_false, ite_true, ite_false, Bool.false_eq_true, Bool.true_eq_false, Bool.not_true, Bool.not_false, Bool.true_and, Bool.false_and, Bool.and_true, Bool.and_false, Bool.true_or, Bool.false_or, Bool.or_true, Bool.or_false, decide_true, decide_false, startR_eq, List.replicate_succ, List.replicate_zero, List.append_nil, Nat.reduceAdd, Nat.reduceSub, Nat.sub_self, List.cons_append, List.nil_append, Option.getD_some, Option.getD_none, Option.bind_some, reduceIte, reduceCtorEq, m1, hd, e, TuOk]
      (repeat' (first | trivial | rfl | apply And.intro))
    unfold nD
    rw [List.map_map]
    simp only [L_nil, L_cons, S_expr, S_asg, S_asgT, S_par, S_parO, N_nil, N_tt, N_ff, setRs, S_setIx, S_ret, S_retN, S_ite, S_for, S_while, S_pass, S_scope, S_spoil, E_non, E_bl, E_int, E_str, E_var, E_op2, E_neg, E_cmp, E_isN, E_notN, E_chn, E_and, E_or, E_not, E_ite, E_lst, E_tup, E_ix, E_slc, E_rev, E_call, E_blt, E_isa, E_mth, E_lc, E_lrng, evA, evF, evS, evP, evIt, evCs, Out.z, Out.o, Out.t, bind_ok, bind_exc, bind_stuck, w_ok, w_exc, w_stuck, then_nx, then_rt, then_exc, then_stuck, Out.noX, wipeR_cons, wipeR_nil, backR_cons, backR_nil, backS_sh, backS_un, spoilS, clampS, Fl.top_hit, Fl.mk_hit, Fl.top_clamp, frz, frzs, opd, look, looks, rv, res, bin, bltD, cmpD, tru, ixD_l, ixD_t, nrm, imm, imms, Sd.ofOpt, setTs, setTg, Fl.top_top, Fl.at_eq, Fl.top_join, Fl.join_top, Fl.join_mk, Fl.top_lo, Nat.reduceLeDiff, seqOf_l, seqOf_t, asgS, backF, byName_nil, endW, List.getElem?_cons_succ, List.getElem?_cons_zero, List.set_cons_succ, List.set_cons_zero, List.length_cons, List.length_nil, List.length_map, List.length_append, List.map_cons, List.map_nil, Option.map_some, Option.map_none, if_true, if_false, ite_true, ite_false, Bool.false_eq_true, Bool.true_eq_false, Bool.not_true, Bool.not_false, Bool.true_and, Bool.false_and, Bool.and_true, Bool.and_false, Bool.true_or, Bool.false_or, Bool.or_true, Bool.or_false, decide_true, decide_false, startR_eq, List.replicate_succ, List.replicate_zero, List.append_nil, Nat.reduceAdd, Nat.reduceSub, Nat.sub_self, List.cons_append, List.nil_append, Option.getD_some, Option.getD_none, Option.bind_some, reduceIte, reduceCtorEq]
    rfl
  cases b with
  | true =>
    refine callF_rt l_first_clash rfl ?_
    simp only [Sd.ofOpt, setTg, setTs, w_ok, if_true, if_false, Bool.false_eq_true, List.set_cons_succ, List.set_cons_zero, startR_eq, List.map_cons, List.map_nil, List.length_cons, List.length_nil, List.replicate_succ, List.replicate_zero, List.cons_append, List.nil_append, nrm, imm, Nat.reduceAdd, Nat.reduceSub, i_first_clash, sq]
    refine L_gen fun P K hK hR => ?_
    simp only [L_nil, L_cons, S_expr, S_asg, S_asgT, S_par, S_parO, N_nil, N_tt, N_ff, setRs, S_setIx, S_ret, S_retN, S_ite, S_for, S_while, S_pass, S_scope, S_spoil, E_non, E_bl, E_int, E_str, E_var, E_op2, E_neg, E_cmp, E_isN, E_notN, E_chn, E_and, E_or, E_not, E_ite, E_lst, E_tup, E_ix, E_slc, E_rev, E_call, E_blt, E_isa, E_mth, E_lc, E_lrng, evA, evF, evS, evP, evIt, evCs, Out.z, Out.o, Out.t, bind_ok, bind_exc, bind_stuck, w_ok, w_exc, w_stuck, then_nx, then_rt, then_exc, then_stuck, Out.noX, wipeR_cons, wipeR_nil, backR_cons, backR_nil, backS_sh, backS_un, spoilS, clampS, Fl.top_hit, Fl.mk_hit, Fl.top_clamp, frz, frzs, opd, look, looks, rv, res, bin, bltD, cmpD, tru, ixD_l, ixD_t, nrm, imm, imms, Sd.ofOpt, setTs, setTg, Fl.top_top, Fl.at_eq, Fl.top_join, Fl.join_top, Fl.join_mk, Fl.top_lo, Nat.reduceLeDiff, seqOf_l, seqOf_t, asgS, backF, byName_nil, endW, List.getElem?_cons_succ, List.getElem?_cons_zero, List.set_cons_succ, List.set_cons_zero, List.length_cons, List.length_nil, List.length_map, List.length_append, List.map_cons, List.map_nil, Option.map_some, Option.map_none, if_true, if_false, ite_true, ite_false, Bool.false_eq_true, Bool.true_eq_false, Bool.not_true, Bool.not_false, Bool.true_and, Bool.false_and, Bool.and_true, Bool.and_false, Bool.true_or, Bool.false_or, Bool.or_true, Bool.or_false, decide_true, decide_false, startR_eq, List.replicate_succ, List.replicate_zero, List.append_nil, Nat.reduceAdd, Nat.reduceSub, Nat.sub_self, List.cons_append, List.nil_append, Option.getD_some, Option.getD_none, Option.bind_some, reduceIte, reduceCtorEq, hcut, parts]
    exact hK _ (FwS_imp (main _ _ _) fun c h => ⟨trivial, h.2⟩)
  | false =>
    refine callF_rt l_first_clash rfl ?_
    simp only [Sd.ofOpt, setTg, setTs, w_ok, if_true, if_false, Bool.false_eq_true, List.set_cons_succ, List.set_cons_zero, startR_eq, List.map_cons, List.map_nil, List.length_cons, List.length_nil, List.replicate_succ, List.replicate_zero, List.cons_append, List.nil_append, nrm, imm, Nat.reduceAdd, Nat.reduceSub, i_first_clash, sq]
    refine L_gen fun P K hK hR => ?_
    simp only [L_nil, L_cons, S_expr, S_asg, S_asgT, S_par, S_parO, N_nil, N_tt, N_ff, setRs, S_setIx, S_ret, S_retN, S_ite, S_for, S_while, S_pass, S_scope, S_spoil, E_non, E_bl, E_int, E_str, E_var, E_op2, E_neg, E_cmp, E_isN, E_notN, E_chn, E_and, E_or, E_not, E_ite, E_lst, E_tup, E_ix, E_slc, E_rev, E_call, E_blt, E_isa, E_mth, E_lc, E_lrng, evA, evF, evS, evP, evIt, evCs, Out.z, Out.o, Out.t, bind_ok, bind_exc, bind_stuck, w_ok, w_exc, w_stuck, then_nx, then_rt, then_exc, then_stuck, Out.noX, wipeR_cons, wipeR_nil, backR_cons, backR_nil, backS_sh, backS_un, spoilS, clampS, Fl.top_hit, Fl.mk_hit, Fl.top_clamp, frz, frzs, opd, look, looks, rv, res, bin, bltD, cmpD, tru, ixD_l, ixD_t, nrm, imm, imms, Sd.ofOpt, setTs, setTg, Fl.top_top, Fl.at_eq, Fl.top_join, Fl.join_top, Fl.join_mk, Fl.top_lo, Nat.reduceLeDiff, seqOf_l, seqOf_t, asgS, backF, byName_nil, endW, List.getElem?_cons_succ, List.getElem?_cons_zero, List.set_cons_succ, List.set_cons_zero, List.length_cons, List.length_nil, List.length_map, List.length_append, List.map_cons, List.map_nil, Option.map_some, Option.map_none, if_true, if_false, ite_true, ite_false, Bool.false_eq_true, Bool.true_eq_false, Bool.not_true, Bool.not_false, Bool.true_and, Bool.false_and, Bool.and_true, Bool.and_false, Bool.true_or, Bool.false_or, Bool.or_true, Bool.or_false, decide_true, decide_false, startR_eq, List.replicate_succ, List.replicate_zero, List.append_nil, Nat.reduceAdd, Nat.reduceSub, Nat.sub_self, List.cons_append, List.nil_append, Option.getD_some, Option.getD_none, Option.bind_some, reduceIte, reduceCtorEq, hcut, parts]
    exact hK _ (FwS_imp (main _ _ _) fun c h => ⟨trivial, h.2⟩)
end Lk76

namespace Lk76
open PySem Sd
theorem ixD_sq {b : Bool} {xs : List D} {i : Int} : ixD (sq b xs) (.int i) = atD xs i := by cases b <;> rfl
theorem seqOf_sq {b : Bool} {xs : List D} : seqOf (sq b xs) = some xs := by cases b <;> rfl
theorem rOk0 : rOk 0 = true := rfl
def clJ : List IS := [(.for [4] true (.rng [(.op2 .add (.var 3) (.int (1))), (.var 2)]) [(.ite (.cmp .eq (.op2 .fdiv (.op2 .mul (.ix (.var 1) (.var 3)) (.var 2)) (.var 0)) (.op2 .fdiv (.op2 .mul (.ix (.var 1) (.var 4)) (.var 2)) (.var 0))) [(.ret (.tup [(.var 3), (.var 4)]))] [])])]
theorem atD_sm {ps : List Nat} {B : Nat} (h : Pts B ps) {i : Nat} (hi : i < ps.length) : ps.getD i 0 ≤ 1000 := by
  rw [List.getD_eq_getElem?_getD, List.getElem?_eq_getElem hi]
  exact h.p _ (List.getElem_mem hi)
theorem inner2 {cl : Caller} {sg : Sig} {ps : List Nat} {B : Nat} {b : Bool} {fP : Fl} {m i : Nat} (h : Pts B ps) (hm : m ≤ ps.length) (hi : i < m) (sr : Slot) {N : C → Prop} {Q : Fw → Prop} {s : List Stm} {is : List IS}
    (hN : ∀ sr', findJ (part B ps m) i ((List.range (m - (i + 1))).map fun k => i + 1 + k) = none → FwS (xL cl sg 1 false is ⟨[.sh Fl.top (.int (B : Int)), .sh fP (sq b (nD ps)), .sh Fl.top (.int (m : Int)), .sh Fl.top (.int (i : Int)), sr'], s⟩) N Q)
    (hR : ∀ p c', findJ (part B ps m) i ((List.range (m - (i + 1))).map fun k => i + 1 + k) = some p → c'.s = s → Q (.rt Fl.top (optP (some p)) c')) :
    FwS (xL cl sg 1 false (clJ ++ is) ⟨[.sh Fl.top (.int (B : Int)), .sh fP (sq b (nD ps)), .sh Fl.top (.int (m : Int)), .sh Fl.top (.int (i : Int)), sr], s⟩) N Q := by
  have hn := h.n
  have hb := h.b2
  have hd : divOk (B : Int) = true := divN h.b1 (by omega)
  have e1 : (i : Int) + 1 = ((i + 1 : Nat) : Int) := by omega
  have e2 : rngD [.int ((i + 1 : Nat) : Int), .int (m : Int)] = some ((List.range (m - (i + 1))).map fun (k : Nat) => D.int ((i + 1 + k : Nat) : Int)) := rngD_two (by unfold SZ; omega) (by unfold SZ; omega)
  unfold clJ
  rw [List.singleton_append]
  refine L_for (f := Fl.top) (xs := (List.range (m - (i + 1))).map fun (k : Nat) => D.int ((i + 1 + k : Nat) : Int)) (c1 := ⟨[.sh Fl.top (.int (B : Int)), .sh fP (sq b (nD ps)), .sh Fl.top (.int (m : Int)), .sh Fl.top (.int (i : Int)), sr], s⟩)
    (fun xs c => ∃ js : List Nat, xs = js.map (fun (k : Nat) => D.int (k : Int)) ∧ (∀ j ∈ js, j < m) ∧ findJ (part B ps m) i ((List.range (m - (i + 1))).map fun k => i + 1 + k) = findJ (part B ps m) i js ∧ ∃ sr', c = ⟨[.sh Fl.top (.int (B : Int)), .sh fP (sq b (nD ps)), .sh Fl.top (.int (m : Int)), .sh Fl.top (.int (i : Int)), sr'], s⟩) ?_ ?_ ?_ ?_
  · exact It_rng (f := Fl.top) e2 (by simp only [L_nil, L_cons, S_expr, S_asg, S_asgT, S_par, S_parO, N_nil, N_tt, N_ff, setRs, S_setIx, S_ret, S_retN, S_ite, S_for, S_while, S_pass, S_scope, S_spoil, E_non, E_bl, E_int, E_str, E_var, E_op2, E_neg, E_cmp, E_isN, E_notN, E_chn, E_and, E_or, E_not, E_ite, E_lst, E_tup, E_ix, E_slc, E_rev, E_call, E_blt, E_isa, E_mth, E_lc, E_lrng, evA, evF, evS, evP, evIt, evCs, Out.z, Out.o, Out.t, bind_ok, bind_exc, bind_stuck, w_ok, w_exc, w_stuck, then_nx, then_rt, then_exc, then_stuck, Out.noX, wipeR_cons, wipeR_nil, backR_cons, backR_nil, backS_sh, backS_un, spoilS, clampS, Fl.top_hit, Fl.mk_hit, Fl.top_clamp, frz, frzs, opd, look, looks, rv, res, bin, bltD, cmpD, tru, ixD_l, ixD_t, nrm, imm, imms, Sd.ofOpt, setTs, setTg, Fl.top_top, Fl.at_eq, Fl.top_join, Fl.join_top, Fl.join_mk, Fl.top_lo, Nat.reduceLeDiff, seqOf_l, seqOf_t, asgS, backF, byName_nil, endW, List.getElem?_cons_succ, List.getElem?_cons_zero, List.set_cons_succ, List.set_cons_zero, List.length_cons, List.length_nil, List.length_map, List.length_append, List.map_cons, List.map_nil, Option.map_some, Option.map_none, if_true, if_false, ite_true, ite_false, Bool.false_eq_true, Bool.true_eq_false, Bool.not_true, Bool.not_false, Bool.true_and, Bool.false_and, Bool.and_true, Bool.and_false, Bool.true_or, Bool.false_or, Bool.or_true, Bool.or_false, decide_true, decide_false, startR_eq, List.replicate_succ, List.replicate_zero, List.append_nil, Nat.reduceAdd, Nat.reduceSub, Nat.sub_self, List.cons_append, List.nil_append, Option.getD_some, Option.getD_none, Option.bind_some, reduceIte, reduceCtorEq, e1])
  · refine ⟨(List.range (m - (i + 1))).map fun k => i + 1 + k, by rw [List.map_map]; rfl, fun j hj => ?_, rfl, sr, rfl⟩
    obtain ⟨k, hk, rfl⟩ := List.mem_map.mp hj
    have := List.mem_range.mp hk
    omega
  · rintro x xs c ⟨js, hjs, hlt, hf, sr', rfl⟩
    cases js with
    | nil => simp at hjs
    | cons j js =>
      simp only [List.map_cons, List.cons.injEq] at hjs
      obtain ⟨rfl, rfl⟩ := hjs
      have hj := hlt j List.mem_cons_self
      have a1 := atD_nD (ps := ps) (i := i) (by omega)
      have a2 := atD_nD (ps := ps) (i := j) (by omega)
      have b1 := atD_sm h (i := i) (by omega)
      have b2 := atD_sm h (i := j) (by omega)
      have m1 : mulOk ((ps.getD i 0 : Nat) : Int) (m : Int) = true := mulN (by omega) (by omega)
      have m2 : mulOk ((ps.getD j 0 : Nat) : Int) (m : Int) = true := mulN (by omega) (by omega)
      have d1 : (((ps.getD i 0 : Nat) : Int) * (m : Int)) / (B : Int) = ((part B ps m i : Nat) : Int) := by unfold part; norm_cast
      have d2 : (((ps.getD j 0 : Nat) : Int) * (m : Int)) / (B : Int) = ((part B ps m j : Nat) : Int) := by unfold part; norm_cast
      simp only [Sd.ofOpt, setTg, setTs, w_ok, if_true, if_false, Bool.false_eq_true, List.set_cons_succ, List.set_cons_zero, startR_eq, List.map_cons, List.map_nil, List.length_cons, List.length_nil, List.replicate_succ, List.replicate_zero, List.cons_append, List.nil_append, nrm, imm, Nat.reduceAdd, Nat.reduceSub]
      refine L_gen fun P' K hK hR' => ?_
      simp only [L_nil, L_cons, S_expr, S_asg, S_asgT, S_par, S_parO, N_nil, N_tt, N_ff, setRs, S_setIx, S_ret, S_retN, S_ite, S_for, S_while, S_pass, S_scope, S_spoil, E_non, E_bl, E_int, E_str, E_var, E_op2, E_neg, E_cmp, E_isN, E_notN, E_chn, E_and, E_or, E_not, E_ite, E_lst, E_tup, E_ix, E_slc, E_rev, E_call, E_blt, E_isa, E_mth, E_lc, E_lrng, evA, evF, evS, evP, evIt, evCs, Out.z, Out.o, Out.t, bind_ok, bind_exc, bind_stuck, w_ok, w_exc, w_stuck, then_nx, then_rt, then_exc, then_stuck, Out.noX, wipeR_cons, wipeR_nil, backR_cons, backR_nil, backS_sh, backS_un, spoilS, clampS, Fl.top_hit, Fl.mk_hit, Fl.top_clamp, frz, frzs, opd, look, looks, rv, res, bin, bltD, cmpD, tru, ixD_l, ixD_t, nrm, imm, imms, Sd.ofOpt, setTs, setTg, Fl.top_top, Fl.at_eq, Fl.top_join, Fl.join_top, Fl.join_mk, Fl.top_lo, Nat.reduceLeDiff, seqOf_l, seqOf_t, asgS, backF, byName_nil, endW, List.getElem?_cons_succ, List.getElem?_cons_zero, List.set_cons_succ, List.set_cons_zero, List.length_cons, List.length_nil, List.length_map, List.length_append, List.map_cons, List.map_nil, Option.map_some, Option.map_none, if_true, if_false, ite_true, ite_false, Bool.false_eq_true, Bool.true_eq_false, Bool.not_true, Bool.not_false, Bool.true_and, Bool.false_and, Bool.and_true, Bool.and_false, Bool.true_or, Bool.false_or, Bool.or_true, Bool.or_false, decide_true, decide_false, startR_eq, List.replicate_succ, List.replicate_zero, List.append_nil, Nat.reduceAdd, Nat.reduceSub, Nat.sub_self, List.cons_append, List.nil_append, Option.getD_some, Option.getD_none, Option.bind_some, reduceIte, reduceCtorEq, ixD_sq, a1, a2, m1, m2, hd, d1, d2, eqOk_i, eqD_i, beqN]
      by_cases hq2 : part B ps m i = part B ps m j
      · rw [decide_eq_true hq2]
        simp only [L_nil, L_cons, S_expr, S_asg, S_asgT, S_par, S_parO, N_nil, N_tt, N_ff, setRs, S_setIx, S_ret, S_retN, S_ite, S_for, S_while, S_pass, S_scope, S_spoil, E_non, E_bl, E_int, E_str, E_var, E_op2, E_neg, E_cmp, E_isN, E_notN, E_chn, E_and, E_or, E_not, E_ite, E_lst, E_tup, E_ix, E_slc, E_rev, E_call, E_blt, E_isa, E_mth, E_lc, E_lrng, evA, evF, evS, evP, evIt, evCs, Out.z, Out.o, Out.t, bind_ok, bind_exc, bind_stuck, w_ok, w_exc, w_stuck, then_nx, then_rt, then_exc, then_stuck, Out.noX, wipeR_cons, wipeR_nil, backR_cons, backR_nil, backS_sh, backS_un, spoilS, clampS, Fl.top_hit, Fl.mk_hit, Fl.top_clamp, frz, frzs, opd, look, looks, rv, res, bin, bltD, cmpD, tru, ixD_l, ixD_t, nrm, imm, imms, Sd.ofOpt, setTs, setTg, Fl.top_top, Fl.at_eq, Fl.top_join, Fl.join_top, Fl.join_mk, Fl.top_lo, Nat.reduceLeDiff, seqOf_l, seqOf_t, asgS, backF, byName_nil, endW, List.getElem?_cons_succ, List.getElem?_cons_zero, List.set_cons_succ, List.set_cons_zero, List.length_cons, List.length_nil, List.length_map, List.length_append, List.map_cons, List.map_nil, Option.map_some, Option.map_none, if_true, if_false, ite_true, ite_false, Bool.false_eq_true, Bool.true_eq_false, Bool.not_true, Bool.not_false, Bool.true_and, Bool.false_and, Bool.and_true, Bool.and_false, Bool.true_or, Bool.false_or, Bool.or_true, Bool.or_false, decide_true, decide_false, startR_eq, List.replicate_succ, List.replicate_zero, List.append_nil, Nat.reduceAdd, Nat.reduceSub, Nat.sub_self, List.cons_append, List.nil_append, Option.getD_some, Option.getD_none, Option.bind_some, reduceIte, reduceCtorEq]
        have hf2 : findJ (part B ps m) i (j :: js) = some (i, j) := by simp only [findJ]; exact if_pos hq2
        exact hR' _ _ _ (hR (i, j) _ (hf.trans hf2) rfl)
      · rw [decide_eq_false hq2]
        simp only [L_nil, L_cons, S_expr, S_asg, S_asgT, S_par, S_parO, N_nil, N_tt, N_ff, setRs, S_setIx, S_ret, S_retN, S_ite, S_for, S_while, S_pass, S_scope, S_spoil, E_non, E_bl, E_int, E_str, E_var, E_op2, E_neg, E_cmp, E_isN, E_notN, E_chn, E_and, E_or, E_not, E_ite, E_lst, E_tup, E_ix, E_slc, E_rev, E_call, E_blt, E_isa, E_mth, E_lc, E_lrng, evA, evF, evS, evP, evIt, evCs, Out.z, Out.o, Out.t, bind_ok, bind_exc, bind_stuck, w_ok, w_exc, w_stuck, then_nx, then_rt, then_exc, then_stuck, Out.noX, wipeR_cons, wipeR_nil, backR_cons, backR_nil, backS_sh, backS_un, spoilS, clampS, Fl.top_hit, Fl.mk_hit, Fl.top_clamp, frz, frzs, opd, look, looks, rv, res, bin, bltD, cmpD, tru, ixD_l, ixD_t, nrm, imm, imms, Sd.ofOpt, setTs, setTg, Fl.top_top, Fl.at_eq, Fl.top_join, Fl.join_top, Fl.join_mk, Fl.top_lo, Nat.reduceLeDiff, seqOf_l, seqOf_t, asgS, backF, byName_nil, endW, List.getElem?_cons_succ, List.getElem?_cons_zero, List.set_cons_succ, List.set_cons_zero, List.length_cons, List.length_nil, List.length_map, List.length_append, List.map_cons, List.map_nil, Option.map_some, Option.map_none, if_true, if_false, ite_true, ite_false, Bool.false_eq_true, Bool.true_eq_false, Bool.not_true, Bool.not_false, Bool.true_and, Bool.false_and, Bool.and_true, Bool.and_false, Bool.true_or, Bool.false_or, Bool.or_true, Bool.or_false, decide_true, decide_false, startR_eq, List.replicate_succ, List.replicate_zero, List.append_nil, Nat.reduceAdd, Nat.reduceSub, Nat.sub_self, List.cons_append, List.nil_append, Option.getD_some, Option.getD_none, Option.bind_some, reduceIte, reduceCtorEq]
        have hf2 : findJ (part B ps m) i (j :: js) = findJ (part B ps m) i js := by simp only [findJ]; exact if_neg hq2
        refine hK _ (L_end ⟨js, rfl, fun z hz => hlt z (List.mem_cons_of_mem _ hz), hf.trans hf2, _, rfl⟩)
  · rintro c ⟨js, hjs, _, hf, sr', rfl⟩
    cases js with
    | cons j js => simp at hjs
    | nil => exact hN sr' hf
theorem c__law_clash (n : Nat) (b : Bool) (B m : Nat) (ps : List Nat) (h : Pts B ps) (hm : m ≤ ps.length) (s : List Stm) : callF Pr (n + 1) "_law_clash" [.int (B : Int), sq b (nD ps), .int (m : Int)] s = some (.inl (Fl.top, optP (clash B ps m), s)) := by
  have hn := h.n
  have hsz : m ≤ SZ := by unfold SZ; omega
  have hst : ∃ fP, startR ⟨["bottom", "points", "many"], ["bottom", "points", "many", "one", "other"], i__law_clash⟩ [.int (B : Int), sq b (nD ps), .int (m : Int)] = [.sh Fl.top (.int (B : Int)), .sh fP (sq b (nD ps)), .sh Fl.top (.int (m : Int)), .un, .un] := by
    cases b <;> simp only [Sd.ofOpt, setTg, setTs, w_ok, if_true, if_false, Bool.false_eq_true, List.set_cons_succ, List.set_cons_zero, startR_eq, List.map_cons, List.map_nil, List.length_cons, List.length_nil, List.replicate_succ, List.replicate_zero, List.cons_append, List.nil_append, nrm, imm, Nat.reduceAdd, Nat.reduceSub, sq] <;> exact ⟨_, rfl⟩
  obtain ⟨fP, hst⟩ := hst
  refine callF_rt l__law_clash rfl ?_
  rw [hst]
  show FwS (xL _ _ 1 false [(.for [3] true (.rng [(.var 2)]) clJ), (.ret .non)] _) _ _
  refine L_for (f := Fl.top) (xs := (List.range m).map fun (k : Nat) => D.int (k : Int)) (c1 := ⟨[.sh Fl.top (.int (B : Int)), .sh fP (sq b (nD ps)), .sh Fl.top (.int (m : Int)), .un, .un], s⟩)
      (fun xs c => ∃ is : List Nat, xs = is.map (fun (k : Nat) => D.int (k : Int)) ∧ (∀ i ∈ is, i < m) ∧ clash B ps m = findI (part B ps m) m is ∧ ∃ s5 s6, c = ⟨[.sh Fl.top (.int (B : Int)), .sh fP (sq b (nD ps)), .sh Fl.top (.int (m : Int)), s5, s6], s⟩) (It_rng (f := Fl.top) (rngD_nat hsz) (by simp only [L_nil, L_cons, S_expr, S_asg, S_asgT, S_par, S_parO, N_nil, N_tt, N_ff, setRs, S_setIx, S_ret, S_retN, S_ite, S_for, S_while, S_pass, S_scope, S_spoil, E_non, E_bl, E_int, E_str, E_var, E_op2, E_neg, E_cmp, E_isN, E_notN, E_chn, E_and, E_or, E_not, E_ite, E_lst, E_tup, E_ix, E_slc, E_rev, E_call, E_blt, E_isa, E_mth, E_lc, E_lrng, evA, evF, evS, evP, evIt, evCs, Out.z, Out.o, Out.t, bind_ok, bind_exc, bind_stuck, w_ok, w_exc, w_stuck, then_nx, then_rt, then_exc, then_stuck, Out.noX, wipeR_cons, wipeR_nil, backR_cons, backR_nil, backS_sh, backS_un, spoilS, clampS, Fl.top_hit, Fl.mk_hit, Fl.top_clamp, frz, frzs, opd, look, looks, rv, res, bin, bltD, cmpD, tru, ixD_l, ixD_t, nrm, imm, imms, Sd.ofOpt, setTs, setTg, Fl.top_top, Fl.at_eq, Fl.top_join, Fl.join_top, Fl.join_mk, Fl.top_lo, Nat.reduceLeDiff, seqOf_l, seqOf_t, asgS, backF, byName_nil, endW, List.getElem?_cons_succ, List.getElem?_cons_zero, List.set_cons_succ, List.set_cons_zero, List.length_cons, List.length_nil, List.length_map, List.length_append, List.map_cons, List.map_nil, Option.map_some, Option.map_none, if_true, if_false, ite_true, ite_false, Bool.false_eq_true, Bool.true_eq_false, Bool.not_true, Bool.not_false, Bool.true_and, Bool.false_and, Bool.and_true, Bool.and_false, Bool.true_or, Bool.false_or, Bool.or_true, Bool.or_false, decide_true, decide_false, startR_eq, List.replicate_succ, List.replicate_zero, List.append_nil, Nat.reduceAdd, Nat.reduceSub, Nat.sub_self, List.cons_append, List.nil_append, Option.getD_some, Option.getD_none, Option.bind_some, reduceIte, reduceCtorEq])) ⟨List.range m, rfl, fun i hi => List.mem_range.mp hi, rfl, _, _, rfl⟩ ?_ ?_
  · rintro x xs c ⟨is, his, hlt, hf, s5, s6, rfl⟩
    cases is with
    | nil => simp at his
    | cons i is =>
      simp only [List.map_cons, List.cons.injEq] at his
      obtain ⟨rfl, rfl⟩ := his
      have hi := hlt i List.mem_cons_self
      simp only [Sd.ofOpt, setTg, setTs, w_ok, if_true, if_false, Bool.false_eq_true, List.set_cons_succ, List.set_cons_zero, startR_eq, List.map_cons, List.map_nil, List.length_cons, List.length_nil, List.replicate_succ, List.replicate_zero, List.cons_append, List.nil_append, nrm, imm, Nat.reduceAdd, Nat.reduceSub]
      rw [← List.append_nil clJ]
      refine inner2 h hm hi s6 (fun sr' hj => ?_) (fun p c' hj hs => ?_)
      · refine L_end ⟨is, rfl, fun z hz => hlt z (List.mem_cons_of_mem _ hz), ?_, _, _, rfl⟩
        rw [hf]; simp only [findI, hj]
      · refine ⟨rfl, ?_, hs⟩
        rw [hf]; simp only [findI, hj]
  · rintro c ⟨is, his, _, hf, s5, s6, rfl⟩
    cases is with
    | cons j js => simp at his
    | nil =>
      refine L_gen fun P' K hK hR => ?_
      simp only [L_nil, L_cons, S_expr, S_asg, S_asgT, S_par, S_parO, N_nil, N_tt, N_ff, setRs, S_setIx, S_ret, S_retN, S_ite, S_for, S_while, S_pass, S_scope, S_spoil, E_non, E_bl, E_int, E_str, E_var, E_op2, E_neg, E_cmp, E_isN, E_notN, E_chn, E_and, E_or, E_not, E_ite, E_lst, E_tup, E_ix, E_slc, E_rev, E_call, E_blt, E_isa, E_mth, E_lc, E_lrng, evA, evF, evS, evP, evIt, evCs, Out.z, Out.o, Out.t, bind_ok, bind_exc, bind_stuck, w_ok, w_exc, w_stuck, then_nx, then_rt, then_exc, then_stuck, Out.noX, wipeR_cons, wipeR_nil, backR_cons, backR_nil, backS_sh, backS_un, spoilS, clampS, Fl.top_hit, Fl.mk_hit, Fl.top_clamp, frz, frzs, opd, look, looks, rv, res, bin, bltD, cmpD, tru, ixD_l, ixD_t, nrm, imm, imms, Sd.ofOpt, setTs, setTg, Fl.top_top, Fl.at_eq, Fl.top_join, Fl.join_top, Fl.join_mk, Fl.top_lo, Nat.reduceLeDiff, seqOf_l, seqOf_t, asgS, backF, byName_nil, endW, List.getElem?_cons_succ, List.getElem?_cons_zero, List.set_cons_succ, List.set_cons_zero, List.length_cons, List.length_nil, List.length_map, List.length_append, List.map_cons, List.map_nil, Option.map_some, Option.map_none, if_true, if_false, ite_true, ite_false, Bool.false_eq_true, Bool.true_eq_false, Bool.not_true, Bool.not_false, Bool.true_and, Bool.false_and, Bool.and_true, Bool.and_false, Bool.true_or, Bool.false_or, Bool.or_true, Bool.or_false, decide_true, decide_false, startR_eq, List.replicate_succ, List.replicate_zero, List.append_nil, Nat.reduceAdd, Nat.reduceSub, Nat.sub_self, List.cons_append, List.nil_append, Option.getD_some, Option.getD_none, Option.bind_some, reduceIte, reduceCtorEq]
      refine hR _ _ _ ⟨rfl, ?_, rfl⟩
      rw [hf]; rfl
/-! ### the first fault -/
def faultM (B : Nat) (ps : List Nat) : List Nat → Option (Nat × Nat × Nat)
  | [] => none
  | m :: ms => match clash B ps m with
    | some (i, j) => some (m, i, j)
    | none => faultM B ps ms
def fault (B : Nat) (ps : List Nat) : Option (Nat × Nat × Nat) := faultM B ps ((List.range ps.length).map fun k => 1 + k)
def optF : Option (Nat × Nat × Nat) → D
  | none => .non
  | some (m, i, j) => .tup [.int (m : Int), .int (i : Int), .int (j : Int)]
theorem rng1 {l : Nat} (hl : l ≤ 1000) : rngD [.int 1, .int ((l : Int) + 1)] = some (((List.range l).map fun k => 1 + k).map fun (k : Nat) => D.int (k : Int)) := by
  have := rngD_two (a := 1) (b := l + 1) (by unfold SZ; omega) (by unfold SZ; omega)
  rw [Nat.add_sub_cancel] at this
  rw [List.map_map]
  exact this
def bfI (f : Str) : List IS := [
    (.for [2] true (.rng [(.int (1)), (.op2 .add (.blt .len [(.var 1)]) (.int (1)))]) [(.asg 3 false (.call f [(.var 0), (.var 1), (.var 2)] [] [])), (.ite (.notN (.var 3)) [(.ret (.tup [(.var 2), (.ix (.var 3) (.int (0))), (.ix (.var 3) (.int (1)))]))] [])]),
    (.ret .non)]
theorem bf_run {n : Nat} {b : Bool} {fP : Fl} {B : Nat} {ps : List Nat} {f : Str} (h : Pts B ps) (s : List Stm) (hs : sgOf Pr f = (["bottom", "points", "many"] : List Str)) (s2 s3 : Slot)
    (hc : ∀ m, m ≤ ps.length → callF Pr n f [.int (B : Int), sq b (nD ps), .int (m : Int)] s = some (.inl (Fl.top, optP (clash B ps m), s))) :
    FwS (xL (callF Pr n) (sgOf Pr) 1 false (bfI f) ⟨[.sh Fl.top (.int (B : Int)), .sh fP (sq b (nD ps)), s2, s3], s⟩) (fun c => Fl.top = Fl.top ∧ optF (fault B ps) = .non ∧ c.s = s) (RtQ Fl.top (optF (fault B ps)) s) := by
  have hn := h.n
  unfold bfI
  have hlen : ∀ c, bltD .len [sq b (nD ps)] = some (false, .int (ps.length : Int)) → evIt (callF Pr n) (sgOf Pr) 1 (.rng [(.int (1)), (.op2 .add (.blt .len [(.var 1)]) (.int (1)))]) ⟨[.sh Fl.top (.int (B : Int)), .sh fP (sq b (nD ps)), s2, s3], c⟩ = .ok (Fl.top, ((List.range ps.length).map fun k => 1 + k).map fun (k : Nat) => D.int (k : Int)) ⟨[.sh Fl.top (.int (B : Int)), .sh fP (sq b (nD ps)), s2, s3], c⟩ := fun c hb => by
    refine It_rng (f := Fl.top) (rng1 (by omega)) ?_
    cases b <;> simp only [L_nil, L_cons, S_expr, S_asg, S_asgT, S_par, S_parO, N_nil, N_tt, N_ff, setRs, S_setIx, S_ret, S_retN, S_ite, S_for, S_while, S_pass, S_scope, S_spoil, E_non, E_bl, E_int, E_str, E_var, E_op2, E_neg, E_cmp, E_isN, E_notN, E_chn, E_and, E_or, E_not, E_ite, E_lst, E_tup, E_ix, E_slc, E_rev, E_call, E_blt, E_isa, E_mth, E_lc, E_lrng, evA, evF, evS, evP, evIt, evCs, Out.z, Out.o, Out.t, bind_ok, bind_exc, bind_stuck, w_ok, w_exc, w_stuck, then_nx, then_rt, then_exc, then_stuck, Out.noX, wipeR_cons, wipeR_nil, backR_cons, backR_nil, backS_sh, backS_un, spoilS, clampS, Fl.top_hit, Fl.mk_hit, Fl.top_clamp, frz, frzs, opd, look, looks, rv, res, bin, bltD, cmpD, tru, ixD_l, ixD_t, nrm, imm, imms, Sd.ofOpt, setTs, setTg, Fl.top_top, Fl.at_eq, Fl.top_join, Fl.join_top, Fl.join_mk, Fl.top_lo, Nat.reduceLeDiff, seqOf_l, seqOf_t, asgS, backF, byName_nil, endW, List.getElem?_cons_succ, List.getElem?_cons_zero, List.set_cons_succ, List.set_cons_zero, List.length_cons, List.length_nil, List.length_map, List.length_append, List.map_cons, List.map_nil, Option.map_some, Option.map_none, if_true, if_false, ite_true, ite_false, Bool.false_eq_true, Bool.true_eq_false, Bool.not_true, Bool.not_false, Bool.true_and, Bool.false_and, Bool.and_true, Bool.and_false, Bool.true_or, Bool.false_or, Bool.or_true, Bool.or_false, decide_true, decide_false, startR_eq, List.replicate_succ, List.replicate_zero, List.append_nil, Nat.reduceAdd, Nat.reduceSub, Nat.sub_self, List.cons_append, List.nil_append, Option.getD_some, Option.getD_none, Option.bind_some, reduceIte, reduceCtorEq, sq, nD_len]
  refine L_for (f := Fl.top) (xs := ((List.range ps.length).map fun k => 1 + k).map fun (k : Nat) => D.int (k : Int)) (c1 := ⟨[.sh Fl.top (.int (B : Int)), .sh fP (sq b (nD ps)), s2, s3], s⟩)
      (fun xs c => ∃ ms : List Nat, xs = ms.map (fun (k : Nat) => D.int (k : Int)) ∧ (∀ m ∈ ms, m ≤ ps.length) ∧ fault B ps = faultM B ps ms ∧ ∃ s2 s3, c = ⟨[.sh Fl.top (.int (B : Int)), .sh fP (sq b (nD ps)), s2, s3], s⟩) ?_ ⟨_, rfl, fun m hm => ?_, rfl, _, _, rfl⟩ ?_ ?_
  · exact hlen s (by cases b <;> simp only [sq, bltD, nD_len])
  · obtain ⟨k, hk, rfl⟩ := List.mem_map.mp hm
    have := List.mem_range.mp hk
    omega
  · rintro x xs c ⟨ms, hms, hlt, hf, s2, s3, rfl⟩
    cases ms with
    | nil => simp at hms
    | cons m ms =>
      simp only [List.map_cons, List.cons.injEq] at hms
      obtain ⟨rfl, rfl⟩ := hms
      have hc := hc m (hlt m List.mem_cons_self)
      simp only [Sd.ofOpt, setTg, setTs, w_ok, if_true, if_false, Bool.false_eq_true, List.set_cons_succ, List.set_cons_zero, startR_eq, List.map_cons, List.map_nil, List.length_cons, List.length_nil, List.replicate_succ, List.replicate_zero, List.cons_append, List.nil_append, nrm, imm, Nat.reduceAdd, Nat.reduceSub]
      cases e : clash B ps m with
      | none =>
        have hf2 : fault B ps = faultM B ps ms := by rw [hf]; simp only [faultM, e]
        rw [e] at hc
        refine L_gen fun P' K hK hR' => ?_
        simp only [L_nil, L_cons, S_expr, S_asg, S_asgT, S_par, S_parO, N_nil, N_tt, N_ff, setRs, S_setIx, S_ret, S_retN, S_ite, S_for, S_while, S_pass, S_scope, S_spoil, E_non, E_bl, E_int, E_str, E_var, E_op2, E_neg, E_cmp, E_isN, E_notN, E_chn, E_and, E_or, E_not, E_ite, E_lst, E_tup, E_ix, E_slc, E_rev, E_call, E_blt, E_isa, E_mth, E_lc, E_lrng, evA, evF, evS, evP, evIt, evCs, Out.z, Out.o, Out.t, bind_ok, bind_exc, bind_stuck, w_ok, w_exc, w_stuck, then_nx, then_rt, then_exc, then_stuck, Out.noX, wipeR_cons, wipeR_nil, backR_cons, backR_nil, backS_sh, backS_un, spoilS, clampS, Fl.top_hit, Fl.mk_hit, Fl.top_clamp, frz, frzs, opd, look, looks, rv, res, bin, bltD, cmpD, tru, ixD_l, ixD_t, nrm, imm, imms, Sd.ofOpt, setTs, setTg, Fl.top_top, Fl.at_eq, Fl.top_join, Fl.join_top, Fl.join_mk, Fl.top_lo, Nat.reduceLeDiff, seqOf_l, seqOf_t, asgS, backF, byName_nil, endW, List.getElem?_cons_succ, List.getElem?_cons_zero, List.set_cons_succ, List.set_cons_zero, List.length_cons, List.length_nil, List.length_map, List.length_append, List.map_cons, List.map_nil, Option.map_some, Option.map_none, if_true, if_false, ite_true, ite_false, Bool.false_eq_true, Bool.true_eq_false, Bool.not_true, Bool.not_false, Bool.true_and, Bool.false_and, Bool.and_true, Bool.and_false, Bool.true_or, Bool.false_or, Bool.or_true, Bool.or_false, decide_true, decide_false, startR_eq, List.replicate_succ, List.replicate_zero, List.append_nil, Nat.reduceAdd, Nat.reduceSub, Nat.sub_self, List.cons_append, List.nil_append, Option.getD_some, Option.getD_none, Option.bind_some, reduceIte, reduceCtorEq, hs, hc, optP]
        refine hK _ (L_gen fun P' K hK hR' => ?_)
        simp only [L_nil, L_cons, S_expr, S_asg, S_asgT, S_par, S_parO, N_nil, N_tt, N_ff, setRs, S_setIx, S_ret, S_retN, S_ite, S_for, S_while, S_pass, S_scope, S_spoil, E_non, E_bl, E_int, E_str, E_var, E_op2, E_neg, E_cmp, E_isN, E_notN, E_chn, E_and, E_or, E_not, E_ite, E_lst, E_tup, E_ix, E_slc, E_rev, E_call, E_blt, E_isa, E_mth, E_lc, E_lrng, evA, evF, evS, evP, evIt, evCs, Out.z, Out.o, Out.t, bind_ok, bind_exc, bind_stuck, w_ok, w_exc, w_stuck, then_nx, then_rt, then_exc, then_stuck, Out.noX, wipeR_cons, wipeR_nil, backR_cons, backR_nil, backS_sh, backS_un, spoilS, clampS, Fl.top_hit, Fl.mk_hit, Fl.top_clamp, frz, frzs, opd, look, looks, rv, res, bin, bltD, cmpD, tru, ixD_l, ixD_t, nrm, imm, imms, Sd.ofOpt, setTs, setTg, Fl.top_top, Fl.at_eq, Fl.top_join, Fl.join_top, Fl.join_mk, Fl.top_lo, Nat.reduceLeDiff, seqOf_l, seqOf_t, asgS, backF, byName_nil, endW, List.getElem?_cons_succ, List.getElem?_cons_zero, List.set_cons_succ, List.set_cons_zero, List.length_cons, List.length_nil, List.length_map, List.length_append, List.map_cons, List.map_nil, Option.map_some, Option.map_none, if_true, if_false, ite_true, ite_false, Bool.false_eq_true, Bool.true_eq_false, Bool.not_true, Bool.not_false, Bool.true_and, Bool.false_and, Bool.and_true, Bool.and_false, Bool.true_or, Bool.false_or, Bool.or_true, Bool.or_false, decide_true, decide_false, startR_eq, List.replicate_succ, List.replicate_zero, List.append_nil, Nat.reduceAdd, Nat.reduceSub, Nat.sub_self, List.cons_append, List.nil_append, Option.getD_some, Option.getD_none, Option.bind_some, reduceIte, reduceCtorEq]
        refine hK _ (L_end ⟨ms, rfl, fun z hz => hlt z (List.mem_cons_of_mem _ hz), hf2, _, _, rfl⟩)
      | some p =>
        obtain ⟨i, j⟩ := p
        have hf2 : fault B ps = some (m, i, j) := by rw [hf]; simp only [faultM, e]
        rw [e] at hc
        refine L_gen fun P' K hK hR' => ?_
        simp only [L_nil, L_cons, S_expr, S_asg, S_asgT, S_par, S_parO, N_nil, N_tt, N_ff, setRs, S_setIx, S_ret, S_retN, S_ite, S_for, S_while, S_pass, S_scope, S_spoil, E_non, E_bl, E_int, E_str, E_var, E_op2, E_neg, E_cmp, E_isN, E_notN, E_chn, E_and, E_or, E_not, E_ite, E_lst, E_tup, E_ix, E_slc, E_rev, E_call, E_blt, E_isa, E_mth, E_lc, E_lrng, evA, evF, evS, evP, evIt, evCs, Out.z, Out.o, Out.t, bind_ok, bind_exc, bind_stuck, w_ok, w_exc, w_stuck, then_nx, then_rt, then_exc, then_stuck, Out.noX, wipeR_cons, wipeR_nil, backR_cons, backR_nil, backS_sh, backS_un, spoilS, clampS, Fl.top_hit, Fl.mk_hit, Fl.top_clamp, frz, frzs, opd, look, looks, rv, res, bin, bltD, cmpD, tru, ixD_l, ixD_t, nrm, imm, imms, Sd.ofOpt, setTs, setTg, Fl.top_top, Fl.at_eq, Fl.top_join, Fl.join_top, Fl.join_mk, Fl.top_lo, Nat.reduceLeDiff, seqOf_l, seqOf_t, asgS, backF, byName_nil, endW, List.getElem?_cons_succ, List.getElem?_cons_zero, List.set_cons_succ, List.set_cons_zero, List.length_cons, List.length_nil, List.length_map, List.length_append, List.map_cons, List.map_nil, Option.map_some, Option.map_none, if_true, if_false, ite_true, ite_false, Bool.false_eq_true, Bool.true_eq_false, Bool.not_true, Bool.not_false, Bool.true_and, Bool.false_and, Bool.and_true, Bool.and_false, Bool.true_or, Bool.false_or, Bool.or_true, Bool.or_false, decide_true, decide_false, startR_eq, List.replicate_succ, List.replicate_zero, List.append_nil, Nat.reduceAdd, Nat.reduceSub, Nat.sub_self, List.cons_append, List.nil_append, Option.getD_some, Option.getD_none, Option.bind_some, reduceIte, reduceCtorEq, hs, hc, optP]
        refine hK _ (L_gen fun P' K hK hR' => ?_)
        have a0 : atD [D.int (i : Int), D.int (j : Int)] 0 = some (.int (i : Int)) := rfl
        have a1 : atD [D.int (i : Int), D.int (j : Int)] 1 = some (.int (j : Int)) := rfl
        simp only [L_nil, L_cons, S_expr, S_asg, S_asgT, S_par, S_parO, N_nil, N_tt, N_ff, setRs, S_setIx, S_ret, S_retN, S_ite, S_for, S_while, S_pass, S_scope, S_spoil, E_non, E_bl, E_int, E_str, E_var, E_op2, E_neg, E_cmp, E_isN, E_notN, E_chn, E_and, E_or, E_not, E_ite, E_lst, E_tup, E_ix, E_slc, E_rev, E_call, E_blt, E_isa, E_mth, E_lc, E_lrng, evA, evF, evS, evP, evIt, evCs, Out.z, Out.o, Out.t, bind_ok, bind_exc, bind_stuck, w_ok, w_exc, w_stuck, then_nx, then_rt, then_exc, then_stuck, Out.noX, wipeR_cons, wipeR_nil, backR_cons, backR_nil, backS_sh, backS_un, spoilS, clampS, Fl.top_hit, Fl.mk_hit, Fl.top_clamp, frz, frzs, opd, look, looks, rv, res, bin, bltD, cmpD, tru, ixD_l, ixD_t, nrm, imm, imms, Sd.ofOpt, setTs, setTg, Fl.top_top, Fl.at_eq, Fl.top_join, Fl.join_top, Fl.join_mk, Fl.top_lo, Nat.reduceLeDiff, seqOf_l, seqOf_t, asgS, backF, byName_nil, endW, List.getElem?_cons_succ, List.getElem?_cons_zero, List.set_cons_succ, List.set_cons_zero, List.length_cons, List.length_nil, List.length_map, List.length_append, List.map_cons, List.map_nil, Option.map_some, Option.map_none, if_true, if_false, ite_true, ite_false, Bool.false_eq_true, Bool.true_eq_false, Bool.not_true, Bool.not_false, Bool.true_and, Bool.false_and, Bool.and_true, Bool.and_false, Bool.true_or, Bool.false_or, Bool.or_true, Bool.or_false, decide_true, decide_false, startR_eq, List.replicate_succ, List.replicate_zero, List.append_nil, Nat.reduceAdd, Nat.reduceSub, Nat.sub_self, List.cons_append, List.nil_append, Option.getD_some, Option.getD_none, Option.bind_some, reduceIte, reduceCtorEq, a0, a1]
        refine hR' _ _ _ ?_
        rw [hf2]
        exact ⟨rfl, rfl, rfl⟩
  · rintro c ⟨ms, hms, _, hf, s2, s3, rfl⟩
    cases ms with
    | cons j js => simp at hms
    | nil =>
      refine L_gen fun P' K hK hR => ?_
      simp only [L_nil, L_cons, S_expr, S_asg, S_asgT, S_par, S_parO, N_nil, N_tt, N_ff, setRs, S_setIx, S_ret, S_retN, S_ite, S_for, S_while, S_pass, S_scope, S_spoil, E_non, E_bl, E_int, E_str, E_var, E_op2, E_neg, E_cmp, E_isN, E_notN, E_chn, E_and, E_or, E_not, E_ite, E_lst, E_tup, E_ix, E_slc, E_rev, E_call, E_blt, E_isa, E_mth, E_lc, E_lrng, evA, evF, evS, evP, evIt, evCs, Out.z, Out.o, Out.t, bind_ok, bind_exc, bind_stuck, w_ok, w_exc, w_stuck, then_nx, then_rt, then_exc, then_stuck, Out.noX, wipeR_cons, wipeR_nil, backR_cons, backR_nil, backS_sh, backS_un, spoilS, clampS, Fl.top_hit, Fl.mk_hit, Fl.top_clamp, frz, frzs, opd, look, looks, rv, res, bin, bltD, cmpD, tru, ixD_l, ixD_t, nrm, imm, imms, Sd.ofOpt, setTs, setTg, Fl.top_top, Fl.at_eq, Fl.top_join, Fl.join_top, Fl.join_mk, Fl.top_lo, Nat.reduceLeDiff, seqOf_l, seqOf_t, asgS, backF, byName_nil, endW, List.getElem?_cons_succ, List.getElem?_cons_zero, List.set_cons_succ, List.set_cons_zero, List.length_cons, List.length_nil, List.length_map, List.length_append, List.map_cons, List.map_nil, Option.map_some, Option.map_none, if_true, if_false, ite_true, ite_false, Bool.false_eq_true, Bool.true_eq_false, Bool.not_true, Bool.not_false, Bool.true_and, Bool.false_and, Bool.and_true, Bool.and_false, Bool.true_or, Bool.false_or, Bool.or_true, Bool.or_false, decide_true, decide_false, startR_eq, List.replicate_succ, List.replicate_zero, List.append_nil, Nat.reduceAdd, Nat.reduceSub, Nat.sub_self, List.cons_append, List.nil_append, Option.getD_some, Option.getD_none, Option.bind_some, reduceIte, reduceCtorEq]
      refine hR _ _ _ ⟨rfl, ?_, rfl⟩
      rw [hf]; rfl
theorem c__law_beginning_fault (n : Nat) (b : Bool) (B : Nat) (ps : List Nat) (h : Pts B ps) (s : List Stm) : callF Pr (n + 2) "_law_beginning_fault" [.int (B : Int), sq b (nD ps)] s = some (.inl (Fl.top, optF (fault B ps), s)) := by
  have hst : ∃ fP, startR ⟨["bottom", "points"], ["bottom", "points", "many", "pair"], i__law_beginning_fault⟩ [.int (B : Int), sq b (nD ps)] = [.sh Fl.top (.int (B : Int)), .sh fP (sq b (nD ps)), .un, .un] := by
    cases b <;> simp only [Sd.ofOpt, setTg, setTs, w_ok, if_true, if_false, Bool.false_eq_true, List.set_cons_succ, List.set_cons_zero, startR_eq, List.map_cons, List.map_nil, List.length_cons, List.length_nil, List.replicate_succ, List.replicate_zero, List.cons_append, List.nil_append, nrm, imm, Nat.reduceAdd, Nat.reduceSub, sq] <;> exact ⟨_, rfl⟩
  obtain ⟨fP, hst⟩ := hst
  refine callF_rt l__law_beginning_fault rfl ?_
  rw [hst]
  exact bf_run h s rfl .un .un fun m hm => c__law_clash n b B m ps h hm s
end Lk76

namespace Lk76
open PySem Sd
/-! ### the checks -/
theorem c_is_whole (n : Nat) (v : Int) (s : List Stm) : callF Pr (n + 1) "is_whole" [.int v] s = some (.inl (Fl.top, .bl true, s)) := by
  refine callF_rt l_is_whole rfl ?_
  simp only [i_is_whole]
  simp only [L_nil, L_cons, S_expr, S_asg, S_asgT, S_par, S_parO, N_nil, N_tt, N_ff, setRs, S_setIx, S_ret, S_retN, S_ite, S_for, S_while, S_pass, S_scope, S_spoil, E_non, E_bl, E_int, E_str, E_var, E_op2, E_neg, E_cmp, E_isN, E_notN, E_chn, E_and, E_or, E_not, E_ite, E_lst, E_tup, E_ix, E_slc, E_rev, E_call, E_blt, E_isa, E_mth, E_lc, E_lrng, evA, evF, evS, evP, evIt, evCs, Out.z, Out.o, Out.t, bind_ok, bind_exc, bind_stuck, w_ok, w_exc, w_stuck, then_nx, then_rt, then_exc, then_stuck, Out.noX, wipeR_cons, wipeR_nil, backR_cons, backR_nil, backS_sh, backS_un, spoilS, clampS, Fl.top_hit, Fl.mk_hit, Fl.top_clamp, frz, frzs, opd, look, looks, rv, res, bin, bltD, cmpD, tru, ixD_l, ixD_t, nrm, imm, imms, Sd.ofOpt, setTs, setTg, Fl.top_top, Fl.at_eq, Fl.top_join, Fl.join_top, Fl.join_mk, Fl.top_lo, Nat.reduceLeDiff, seqOf_l, seqOf_t, asgS, backF, byName_nil, endW, List.getElem?_cons_succ, List.getElem?_cons_zero, List.set_cons_succ, List.set_cons_zero, List.length_cons, List.length_nil, List.length_map, List.length_append, List.map_cons, List.map_nil, Option.map_some, Option.map_none, if_true, if_false, ite_true, ite_false, Bool.false_eq_true, Bool.true_eq_false, Bool.not_true, Bool.not_false, Bool.true_and, Bool.false_and, Bool.and_true, Bool.and_false, Bool.true_or, Bool.false_or, Bool.or_true, Bool.or_false, decide_true, decide_false, startR_eq, List.replicate_succ, List.replicate_zero, List.append_nil, Nat.reduceAdd, Nat.reduceSub, Nat.sub_self, List.cons_append, List.nil_append, Option.getD_some, Option.getD_none, Option.bind_some, reduceIte, reduceCtorEq, isTy, List.any_cons, List.any_nil, FwS, RtQ]
  (repeat' (first | trivial | rfl | apply And.intro))
theorem sg_is_whole : sgOf Pr "is_whole" = (["thing"] : List Str) := rfl
theorem c_is_number (n : Nat) (v : Int) (hv : 0 ≤ v) (s : List Stm) : callF Pr (n + 2) "is_number" [.int v] s = some (.inl (Fl.top, .bl true, s)) := by
  refine callF_rt l_is_number rfl ?_
  have h := decide_eq_true hv
  simp only [i_is_number]
  simp only [L_nil, L_cons, S_expr, S_asg, S_asgT, S_par, S_parO, N_nil, N_tt, N_ff, setRs, S_setIx, S_ret, S_retN, S_ite, S_for, S_while, S_pass, S_scope, S_spoil, E_non, E_bl, E_int, E_str, E_var, E_op2, E_neg, E_cmp, E_isN, E_notN, E_chn, E_and, E_or, E_not, E_ite, E_lst, E_tup, E_ix, E_slc, E_rev, E_call, E_blt, E_isa, E_mth, E_lc, E_lrng, evA, evF, evS, evP, evIt, evCs, Out.z, Out.o, Out.t, bind_ok, bind_exc, bind_stuck, w_ok, w_exc, w_stuck, then_nx, then_rt, then_exc, then_stuck, Out.noX, wipeR_cons, wipeR_nil, backR_cons, backR_nil, backS_sh, backS_un, spoilS, clampS, Fl.top_hit, Fl.mk_hit, Fl.top_clamp, frz, frzs, opd, look, looks, rv, res, bin, bltD, cmpD, tru, ixD_l, ixD_t, nrm, imm, imms, Sd.ofOpt, setTs, setTg, Fl.top_top, Fl.at_eq, Fl.top_join, Fl.join_top, Fl.join_mk, Fl.top_lo, Nat.reduceLeDiff, seqOf_l, seqOf_t, asgS, backF, byName_nil, endW, List.getElem?_cons_succ, List.getElem?_cons_zero, List.set_cons_succ, List.set_cons_zero, List.length_cons, List.length_nil, List.length_map, List.length_append, List.map_cons, List.map_nil, Option.map_some, Option.map_none, if_true, if_false, ite_true, ite_false, Bool.false_eq_true, Bool.true_eq_false, Bool.not_true, Bool.not_false, Bool.true_and, Bool.false_and, Bool.and_true, Bool.and_false, Bool.true_or, Bool.false_or, Bool.or_true, Bool.or_false, decide_true, decide_false, startR_eq, List.replicate_succ, List.replicate_zero, List.append_nil, Nat.reduceAdd, Nat.reduceSub, Nat.sub_self, List.cons_append, List.nil_append, Option.getD_some, Option.getD_none, Option.bind_some, reduceIte, reduceCtorEq, sg_is_whole, c_is_whole, FwS, RtQ, h]
  (repeat' (first | trivial | rfl | apply And.intro))
theorem sg_is_number : sgOf Pr "is_number" = (["thing"] : List Str) := rfl
theorem c_is_index (n : Nat) (v w : Int) (hv : 0 ≤ v) (hw : v < w) (s : List Stm) : callF Pr (n + 3) "is_index" [.int v, .int w] s = some (.inl (Fl.top, .bl true, s)) := by
  refine callF_rt l_is_index rfl ?_
  have h := decide_eq_true hw
  have h2 := c_is_number n v hv s
  simp only [i_is_index]
  simp only [L_nil, L_cons, S_expr, S_asg, S_asgT, S_par, S_parO, N_nil, N_tt, N_ff, setRs, S_setIx, S_ret, S_retN, S_ite, S_for, S_while, S_pass, S_scope, S_spoil, E_non, E_bl, E_int, E_str, E_var, E_op2, E_neg, E_cmp, E_isN, E_notN, E_chn, E_and, E_or, E_not, E_ite, E_lst, E_tup, E_ix, E_slc, E_rev, E_call, E_blt, E_isa, E_mth, E_lc, E_lrng, evA, evF, evS, evP, evIt, evCs, Out.z, Out.o, Out.t, bind_ok, bind_exc, bind_stuck, w_ok, w_exc, w_stuck, then_nx, then_rt, then_exc, then_stuck, Out.noX, wipeR_cons, wipeR_nil, backR_cons, backR_nil, backS_sh, backS_un, spoilS, clampS, Fl.top_hit, Fl.mk_hit, Fl.top_clamp, frz, frzs, opd, look, looks, rv, res, bin, bltD, cmpD, tru, ixD_l, ixD_t, nrm, imm, imms, Sd.ofOpt, setTs, setTg, Fl.top_top, Fl.at_eq, Fl.top_join, Fl.join_top, Fl.join_mk, Fl.top_lo, Nat.reduceLeDiff, seqOf_l, seqOf_t, asgS, backF, byName_nil, endW, List.getElem?_cons_succ, List.getElem?_cons_zero, List.set_cons_succ, List.set_cons_zero, List.length_cons, List.length_nil, List.length_map, List.length_append, List.map_cons, List.map_nil, Option.map_some, Option.map_none, if_true, if_false, ite_true, ite_false, Bool.false_eq_true, Bool.true_eq_false, Bool.not_true, Bool.not_false, Bool.true_and, Bool.false_and, Bool.and_true, Bool.and_false, Bool.true_or, Bool.false_or, Bool.or_true, Bool.or_false, decide_true, decide_false, startR_eq, List.replicate_succ, List.replicate_zero, List.append_nil, Nat.reduceAdd, Nat.reduceSub, Nat.sub_self, List.cons_append, List.nil_append, Option.getD_some, Option.getD_none, Option.bind_some, reduceIte, reduceCtorEq, sg_is_number, h2, FwS, RtQ, h]
  (repeat' (first | trivial | rfl | apply And.intro))
theorem sg_is_index : sgOf Pr "is_index" = (["thing", "many"] : List Str) := rfl
theorem c_is_list (n : Nat) (b : Bool) (xs : List D) (s : List Stm) : callF Pr (n + 1) "is_list" [sq b xs] s = some (.inl (Fl.top, .bl true, s)) := by
  refine callF_rt l_is_list rfl ?_
  simp only [i_is_list]
  cases b
  · simp only [L_nil, L_cons, S_expr, S_asg, S_asgT, S_par, S_parO, N_nil, N_tt, N_ff, setRs, S_setIx, S_ret, S_retN, S_ite, S_for, S_while, S_pass, S_scope, S_spoil, E_non, E_bl, E_int, E_str, E_var, E_op2, E_neg, E_cmp, E_isN, E_notN, E_chn, E_and, E_or, E_not, E_ite, E_lst, E_tup, E_ix, E_slc, E_rev, E_call, E_blt, E_isa, E_mth, E_lc, E_lrng, evA, evF, evS, evP, evIt, evCs, Out.z, Out.o, Out.t, bind_ok, bind_exc, bind_stuck, w_ok, w_exc, w_stuck, then_nx, then_rt, then_exc, then_stuck, Out.noX, wipeR_cons, wipeR_nil, backR_cons, backR_nil, backS_sh, backS_un, spoilS, clampS, Fl.top_hit, Fl.mk_hit, Fl.top_clamp, frz, frzs, opd, look, looks, rv, res, bin, bltD, cmpD, tru, ixD_l, ixD_t, nrm, imm, imms, Sd.ofOpt, setTs, setTg, Fl.top_top, Fl.at_eq, Fl.top_join, Fl.join_top, Fl.join_mk, Fl.top_lo, Nat.reduceLeDiff, seqOf_l, seqOf_t, asgS, backF, byName_nil, endW, List.getElem?_cons_succ, List.getElem?_cons_zero, List.set_cons_succ, List.set_cons_zero, List.length_cons, List.length_nil, List.length_map, List.length_append, List.map_cons, List.map_nil, Option.map_some, Option.map_none, if_true, if_false, ite_true, ite_false, Bool.false_eq_true, Bool.true_eq_false, Bool.not_true, Bool.not_false, Bool.true_and, Bool.false_and, Bool.and_true, Bool.and_false, Bool.true_or, Bool.false_or, Bool.or_true, Bool.or_false, decide_true, decide_false, startR_eq, List.replicate_succ, List.replicate_zero, List.append_nil, Nat.reduceAdd, Nat.reduceSub, Nat.sub_self, List.cons_append, List.nil_append, Option.getD_some, Option.getD_none, Option.bind_some, reduceIte, reduceCtorEq, sq, isTy, List.any_cons, List.any_nil, FwS, RtQ]
    (repeat' (first | trivial | rfl | apply And.intro))
  · simp only [L_nil, L_cons, S_expr, S_asg, S_asgT, S_par, S_parO, N_nil, N_tt, N_ff, setRs, S_setIx, S_ret, S_retN, S_ite, S_for, S_while, S_pass, S_scope, S_spoil, E_non, E_bl, E_int, E_str, E_var, E_op2, E_neg, E_cmp, E_isN, E_notN, E_chn, E_and, E_or, E_not, E_ite, E_lst, E_tup, E_ix, E_slc, E_rev, E_call, E_blt, E_isa, E_mth, E_lc, E_lrng, evA, evF, evS, evP, evIt, evCs, Out.z, Out.o, Out.t, bind_ok, bind_exc, bind_stuck, w_ok, w_exc, w_stuck, then_nx, then_rt, then_exc, then_stuck, Out.noX, wipeR_cons, wipeR_nil, backR_cons, backR_nil, backS_sh, backS_un, spoilS, clampS, Fl.top_hit, Fl.mk_hit, Fl.top_clamp, frz, frzs, opd, look, looks, rv, res, bin, bltD, cmpD, tru, ixD_l, ixD_t, nrm, imm, imms, Sd.ofOpt, setTs, setTg, Fl.top_top, Fl.at_eq, Fl.top_join, Fl.join_top, Fl.join_mk, Fl.top_lo, Nat.reduceLeDiff, seqOf_l, seqOf_t, asgS, backF, byName_nil, endW, List.getElem?_cons_succ, List.getElem?_cons_zero, List.set_cons_succ, List.set_cons_zero, List.length_cons, List.length_nil, List.length_map, List.length_append, List.map_cons, List.map_nil, Option.map_some, Option.map_none, if_true, if_false, ite_true, ite_false, Bool.false_eq_true, Bool.true_eq_false, Bool.not_true, Bool.not_false, Bool.true_and, Bool.false_and, Bool.and_true, Bool.and_false, Bool.true_or, Bool.false_or, Bool.or_true, Bool.or_false, decide_true, decide_false, startR_eq, List.replicate_succ, List.replicate_zero, List.append_nil, Nat.reduceAdd, Nat.reduceSub, Nat.sub_self, List.cons_append, List.nil_append, Option.getD_some, Option.getD_none, Option.bind_some, reduceIte, reduceCtorEq, sq, isTy, List.any_cons, List.any_nil, FwS, RtQ]
    (repeat' (first | trivial | rfl | apply And.intro))
theorem sg_is_list : sgOf Pr "is_list" = (["thing"] : List Str) := rfl
theorem c_check_bottom (n : Nat) (v : Int) (hv : 1 ≤ v) (s : List Stm) : callF Pr (n + 2) "check_bottom" [.int v] s = some (.inl (Fl.top, .non, s)) := by
  refine callF_rt l_check_bottom rfl ?_
  have h := decide_eq_false (show ¬ v < 1 by omega)
  simp only [i_check_bottom]
  simp only [L_nil, L_cons, S_expr, S_asg, S_asgT, S_par, S_parO, N_nil, N_tt, N_ff, setRs, S_setIx, S_ret, S_retN, S_ite, S_for, S_while, S_pass, S_scope, S_spoil, E_non, E_bl, E_int, E_str, E_var, E_op2, E_neg, E_cmp, E_isN, E_notN, E_chn, E_and, E_or, E_not, E_ite, E_lst, E_tup, E_ix, E_slc, E_rev, E_call, E_blt, E_isa, E_mth, E_lc, E_lrng, evA, evF, evS, evP, evIt, evCs, Out.z, Out.o, Out.t, bind_ok, bind_exc, bind_stuck, w_ok, w_exc, w_stuck, then_nx, then_rt, then_exc, then_stuck, Out.noX, wipeR_cons, wipeR_nil, backR_cons, backR_nil, backS_sh, backS_un, spoilS, clampS, Fl.top_hit, Fl.mk_hit, Fl.top_clamp, frz, frzs, opd, look, looks, rv, res, bin, bltD, cmpD, tru, ixD_l, ixD_t, nrm, imm, imms, Sd.ofOpt, setTs, setTg, Fl.top_top, Fl.at_eq, Fl.top_join, Fl.join_top, Fl.join_mk, Fl.top_lo, Nat.reduceLeDiff, seqOf_l, seqOf_t, asgS, backF, byName_nil, endW, List.getElem?_cons_succ, List.getElem?_cons_zero, List.set_cons_succ, List.set_cons_zero, List.length_cons, List.length_nil, List.length_map, List.length_append, List.map_cons, List.map_nil, Option.map_some, Option.map_none, if_true, if_false, ite_true, ite_false, Bool.false_eq_true, Bool.true_eq_false, Bool.not_true, Bool.not_false, Bool.true_and, Bool.false_and, Bool.and_true, Bool.and_false, Bool.true_or, Bool.false_or, Bool.or_true, Bool.or_false, decide_true, decide_false, startR_eq, List.replicate_succ, List.replicate_zero, List.append_nil, Nat.reduceAdd, Nat.reduceSub, Nat.sub_self, List.cons_append, List.nil_append, Option.getD_some, Option.getD_none, Option.bind_some, reduceIte, reduceCtorEq, sg_is_whole, c_is_whole, FwS, RtQ, h]
  (repeat' (first | trivial | rfl | apply And.intro))
theorem sg_check_bottom : sgOf Pr "check_bottom" = (["bottom"] : List Str) := rfl
theorem c_check_many (n : Nat) (v : Int) (hv : 1 ≤ v) (s : List Stm) : callF Pr (n + 2) "check_many" [.int v] s = some (.inl (Fl.top, .non, s)) := by
  refine callF_rt l_check_many rfl ?_
  have h := decide_eq_false (show ¬ v < 1 by omega)
  simp only [i_check_many]
  simp only [L_nil, L_cons, S_expr, S_asg, S_asgT, S_par, S_parO, N_nil, N_tt, N_ff, setRs, S_setIx, S_ret, S_retN, S_ite, S_for, S_while, S_pass, S_scope, S_spoil, E_non, E_bl, E_int, E_str, E_var, E_op2, E_neg, E_cmp, E_isN, E_notN, E_chn, E_and, E_or, E_not, E_ite, E_lst, E_tup, E_ix, E_slc, E_rev, E_call, E_blt, E_isa, E_mth, E_lc, E_lrng, evA, evF, evS, evP, evIt, evCs, Out.z, Out.o, Out.t, bind_ok, bind_exc, bind_stuck, w_ok, w_exc, w_stuck, then_nx, then_rt, then_exc, then_stuck, Out.noX, wipeR_cons, wipeR_nil, backR_cons, backR_nil, backS_sh, backS_un, spoilS, clampS, Fl.top_hit, Fl.mk_hit, Fl.top_clamp, frz, frzs, opd, look, looks, rv, res, bin, bltD, cmpD, tru, ixD_l, ixD_t, nrm, imm, imms, Sd.ofOpt, setTs, setTg, Fl.top_top, Fl.at_eq, Fl.top_join, Fl.join_top, Fl.join_mk, Fl.top_lo, Nat.reduceLeDiff, seqOf_l, seqOf_t, asgS, backF, byName_nil, endW, List.getElem?_cons_succ, List.getElem?_cons_zero, List.set_cons_succ, List.set_cons_zero, List.length_cons, List.length_nil, List.length_map, List.length_append, List.map_cons, List.map_nil, Option.map_some, Option.map_none, if_true, if_false, ite_true, ite_false, Bool.false_eq_true, Bool.true_eq_false, Bool.not_true, Bool.not_false, Bool.true_and, Bool.false_and, Bool.and_true, Bool.and_false, Bool.true_or, Bool.false_or, Bool.or_true, Bool.or_false, decide_true, decide_false, startR_eq, List.replicate_succ, List.replicate_zero, List.append_nil, Nat.reduceAdd, Nat.reduceSub, Nat.sub_self, List.cons_append, List.nil_append, Option.getD_some, Option.getD_none, Option.bind_some, reduceIte, reduceCtorEq, sg_is_whole, c_is_whole, FwS, RtQ, h]
  (repeat' (first | trivial | rfl | apply And.intro))
theorem sg_check_many : sgOf Pr "check_many" = (["many"] : List Str) := rfl
theorem chk_run {n : Nat} {fP : Fl} {B : Nat} {ps : List Nat} {P : D} (h : Pts B ps) (hp : ∀ p ∈ ps, p < B) (hs : seqOf P = some (nD ps)) (s : List Stm) :
    FwS (xL (callF Pr (n + 3)) (sgOf Pr) 1 false [(.asg 2 false (.lc (.var 3) [3, 4] false (.enm (.var 1) []) [(.not (.call "is_index" [(.var 4), (.var 0)] [] []))])),
    (.ite (.cmp .ne (.var 2) (.lst [])) [.never] [])] ⟨[.sh Fl.top (.int (B : Int)), .sh fP P, .un, .un, .un], s⟩) (fun c => c.s = s) (RtQ Fl.top .non s) := by
  have hn := h.n
  have en : enmD 0 (nD ps) = (enmL 0 ps).map fun p => .tup [.int p.1, .int (p.2 : Int)] := enmD_map (fun (p : Nat) => D.int (p : Int)) ps 0
  have lc : ∀ f, lcD (callF Pr (n + 3)) (sgOf Pr) 1 (.var 3) [3, 4] false [(.not (.call "is_index" [(.var 4), (.var 0)] [] []))] f ((enmL 0 ps).map fun p => .tup [.int p.1, .int (p.2 : Int)]) ⟨[.sh Fl.top (.int (B : Int)), .sh fP P, .un, .un, .un], s⟩ = .ok (.new Fl.top (.lst [])) ⟨[.sh Fl.top (.int (B : Int)), .sh fP P, .un, .un, .un], s⟩ := fun f => by
    rw [lcD_fm (enmL 0 ps) (fun (p : Int × Nat) => D.tup [.int p.1, .int (p.2 : Int)]) (fun (p : Int × Nat) => none) (by rw [enmL_len]; unfold SZ; omega) rfl ?h1]
    case h1 =>
      intro p hm
      have h2 := hp p.2 (enmL_mem hm).2.2
      have hc := c_is_index n (p.2 : Int) (B : Int) (by omega) (by omega) s
      simp only [lcT]
      simp only [L_nil, L_cons, S_expr, S_asg, S_asgT, S_par, S_parO, N_nil, N_tt, N_ff, setRs, S_setIx, S_ret, S_retN, S_ite, S_for, S_while, S_pass, S_scope, S_spoil, E_non, E_bl, E_int, E_str, E_var, E_op2, E_neg, E_cmp, E_isN, E_notN, E_chn, E_and, E_or, E_not, E_ite, E_lst, E_tup, E_ix, E_slc, E_rev, E_call, E_blt, E_isa, E_mth, E_lc, E_lrng, evA, evF, evS, evP, evIt, evCs, Out.z, Out.o, Out.t, bind_ok, bind_exc, bind_stuck, w_ok, w_exc, w_stuck, then_nx, then_rt, then_exc, then_stuck, Out.noX, wipeR_cons, wipeR_nil, backR_cons, backR_nil, backS_sh, backS_un, spoilS, clampS, Fl.top_hit, Fl.mk_hit, Fl.top_clamp, frz, frzs, opd, look, looks, rv, res, bin, bltD, cmpD, tru, ixD_l, ixD_t, nrm, imm, imms, Sd.ofOpt, setTs, setTg, Fl.top_top, Fl.at_eq, Fl.top_join, Fl.join_top, Fl.join_mk, Fl.top_lo, Nat.reduceLeDiff, seqOf_l, seqOf_t, asgS, backF, byName_nil, endW, List.getElem?_cons_succ, List.getElem?_cons_zero, List.set_cons_succ, List.set_cons_zero, List.length_cons, List.length_nil, List.length_map, List.length_append, List.map_cons, List.map_nil, Option.map_some, Option.map_none, if_true, if_false, ite_true, ite_false, Bool.false_eq_true, Bool.true_eq_false, Bool.not_true, Bool.not_false, Bool.true_and, Bool.false_and, Bool.and_true, Bool.and_false, Bool.true_or, Bool.false_or, Bool.or_true, Bool.or_false, decide_true, decide_false, startR_eq, List.replicate_succ, List.replicate_zero, List.append_nil, Nat.reduceAdd, Nat.reduceSub, Nat.sub_self, List.cons_append, List.nil_append, Option.getD_some, Option.getD_none, Option.bind_some, reduceIte, reduceCtorEq, sg_is_index, hc, TuO]
      (repeat' (first | trivial | rfl | apply And.intro))
    rw [show (enmL 0 ps).filterMap (fun (p : Int × Nat) => (none : Option D)) = [] by simp]
    simp only [L_nil, L_cons, S_expr, S_asg, S_asgT, S_par, S_parO, N_nil, N_tt, N_ff, setRs, S_setIx, S_ret, S_retN, S_ite, S_for, S_while, S_pass, S_scope, S_spoil, E_non, E_bl, E_int, E_str, E_var, E_op2, E_neg, E_cmp, E_isN, E_notN, E_chn, E_and, E_or, E_not, E_ite, E_lst, E_tup, E_ix, E_slc, E_rev, E_call, E_blt, E_isa, E_mth, E_lc, E_lrng, evA, evF, evS, evP, evIt, evCs, Out.z, Out.o, Out.t, bind_ok, bind_exc, bind_stuck, w_ok, w_exc, w_stuck, then_nx, then_rt, then_exc, then_stuck, Out.noX, wipeR_cons, wipeR_nil, backR_cons, backR_nil, backS_sh, backS_un, spoilS, clampS, Fl.top_hit, Fl.mk_hit, Fl.top_clamp, frz, frzs, opd, look, looks, rv, res, bin, bltD, cmpD, tru, ixD_l, ixD_t, nrm, imm, imms, Sd.ofOpt, setTs, setTg, Fl.top_top, Fl.at_eq, Fl.top_join, Fl.join_top, Fl.join_mk, Fl.top_lo, Nat.reduceLeDiff, seqOf_l, seqOf_t, asgS, backF, byName_nil, endW, List.getElem?_cons_succ, List.getElem?_cons_zero, List.set_cons_succ, List.set_cons_zero, List.length_cons, List.length_nil, List.length_map, List.length_append, List.map_cons, List.map_nil, Option.map_some, Option.map_none, if_true, if_false, ite_true, ite_false, Bool.false_eq_true, Bool.true_eq_false, Bool.not_true, Bool.not_false, Bool.true_and, Bool.false_and, Bool.and_true, Bool.and_false, Bool.true_or, Bool.false_or, Bool.or_true, Bool.or_false, decide_true, decide_false, startR_eq, List.replicate_succ, List.replicate_zero, List.append_nil, Nat.reduceAdd, Nat.reduceSub, Nat.sub_self, List.cons_append, List.nil_append, Option.getD_some, Option.getD_none, Option.bind_some, reduceIte, reduceCtorEq]
  refine L_gen fun P' K hK hR => ?_
  simp only [L_nil, L_cons, S_expr, S_asg, S_asgT, S_par, S_parO, N_nil, N_tt, N_ff, setRs, S_setIx, S_ret, S_retN, S_ite, S_for, S_while, S_pass, S_scope, S_spoil, E_non, E_bl, E_int, E_str, E_var, E_op2, E_neg, E_cmp, E_isN, E_notN, E_chn, E_and, E_or, E_not, E_ite, E_lst, E_tup, E_ix, E_slc, E_rev, E_call, E_blt, E_isa, E_mth, E_lc, E_lrng, evA, evF, evS, evP, evIt, evCs, Out.z, Out.o, Out.t, bind_ok, bind_exc, bind_stuck, w_ok, w_exc, w_stuck, then_nx, then_rt, then_exc, then_stuck, Out.noX, wipeR_cons, wipeR_nil, backR_cons, backR_nil, backS_sh, backS_un, spoilS, clampS, Fl.top_hit, Fl.mk_hit, Fl.top_clamp, frz, frzs, opd, look, looks, rv, res, bin, bltD, cmpD, tru, ixD_l, ixD_t, nrm, imm, imms, Sd.ofOpt, setTs, setTg, Fl.top_top, Fl.at_eq, Fl.top_join, Fl.join_top, Fl.join_mk, Fl.top_lo, Nat.reduceLeDiff, seqOf_l, seqOf_t, asgS, backF, byName_nil, endW, List.getElem?_cons_succ, List.getElem?_cons_zero, List.set_cons_succ, List.set_cons_zero, List.length_cons, List.length_nil, List.length_map, List.length_append, List.map_cons, List.map_nil, Option.map_some, Option.map_none, if_true, if_false, ite_true, ite_false, Bool.false_eq_true, Bool.true_eq_false, Bool.not_true, Bool.not_false, Bool.true_and, Bool.false_and, Bool.and_true, Bool.and_false, Bool.true_or, Bool.false_or, Bool.or_true, Bool.or_false, decide_true, decide_false, startR_eq, List.replicate_succ, List.replicate_zero, List.append_nil, Nat.reduceAdd, Nat.reduceSub, Nat.sub_self, List.cons_append, List.nil_append, Option.getD_some, Option.getD_none, Option.bind_some, reduceIte, reduceCtorEq, hs, rOk0, en, lc]
  refine hK _ (L_gen fun P' K hK hR => ?_)
  have e1 : eqOk 60 (.lst []) = true := rfl
  have e2 : eqD (.lst []) (.lst []) = true := by simp only [eqD, eqDs]
  simp only [L_nil, L_cons, S_expr, S_asg, S_asgT, S_par, S_parO, N_nil, N_tt, N_ff, setRs, S_setIx, S_ret, S_retN, S_ite, S_for, S_while, S_pass, S_scope, S_spoil, E_non, E_bl, E_int, E_str, E_var, E_op2, E_neg, E_cmp, E_isN, E_notN, E_chn, E_and, E_or, E_not, E_ite, E_lst, E_tup, E_ix, E_slc, E_rev, E_call, E_blt, E_isa, E_mth, E_lc, E_lrng, evA, evF, evS, evP, evIt, evCs, Out.z, Out.o, Out.t, bind_ok, bind_exc, bind_stuck, w_ok, w_exc, w_stuck, then_nx, then_rt, then_exc, then_stuck, Out.noX, wipeR_cons, wipeR_nil, backR_cons, backR_nil, backS_sh, backS_un, spoilS, clampS, Fl.top_hit, Fl.mk_hit, Fl.top_clamp, frz, frzs, opd, look, looks, rv, res, bin, bltD, cmpD, tru, ixD_l, ixD_t, nrm, imm, imms, Sd.ofOpt, setTs, setTg, Fl.top_top, Fl.at_eq, Fl.top_join, Fl.join_top, Fl.join_mk, Fl.top_lo, Nat.reduceLeDiff, seqOf_l, seqOf_t, asgS, backF, byName_nil, endW, List.getElem?_cons_succ, List.getElem?_cons_zero, List.set_cons_succ, List.set_cons_zero, List.length_cons, List.length_nil, List.length_map, List.length_append, List.map_cons, List.map_nil, Option.map_some, Option.map_none, if_true, if_false, ite_true, ite_false, Bool.false_eq_true, Bool.true_eq_false, Bool.not_true, Bool.not_false, Bool.true_and, Bool.false_and, Bool.and_true, Bool.and_false, Bool.true_or, Bool.false_or, Bool.or_true, Bool.or_false, decide_true, decide_false, startR_eq, List.replicate_succ, List.replicate_zero, List.append_nil, Nat.reduceAdd, Nat.reduceSub, Nat.sub_self, List.cons_append, List.nil_append, Option.getD_some, Option.getD_none, Option.bind_some, reduceIte, reduceCtorEq, e1, e2]
  exact hK _ (L_end rfl)
theorem c_check_points (n : Nat) (b : Bool) (B : Nat) (ps : List Nat) (h : Pts B ps) (h0 : ps ≠ []) (hp : ∀ p ∈ ps, p < B) (s : List Stm) : callF Pr (n + 4) "check_points" [.int (B : Int), sq b (nD ps)] s = some (.inl (Fl.top, .non, s)) := by
  have hn := h.n
  have hb1 := h.b1
  have hst : ∃ fP, startR ⟨["bottom", "points"], ["bottom", "points", "wrong", "index", "point"], i_check_points⟩ [.int (B : Int), sq b (nD ps)] = [.sh Fl.top (.int (B : Int)), .sh fP (sq b (nD ps)), .un, .un, .un] := by
    cases b <;> simp only [Sd.ofOpt, setTg, setTs, w_ok, if_true, if_false, Bool.false_eq_true, List.set_cons_succ, List.set_cons_zero, startR_eq, List.map_cons, List.map_nil, List.length_cons, List.length_nil, List.replicate_succ, List.replicate_zero, List.cons_append, List.nil_append, nrm, imm, Nat.reduceAdd, Nat.reduceSub, sq] <;> exact ⟨_, rfl⟩
  obtain ⟨fP, hst⟩ := hst
  refine callF_rt l_check_points rfl ?_
  rw [hst]
  simp only [i_check_points]
  have c1 := c_check_bottom (n + 1) (B : Int) (by omega) s
  have c2 := c_is_list (n + 2) b (nD ps) s
  have hl : bltD .len [sq b (nD ps)] = some (false, .int (ps.length : Int)) := by cases b <;> simp only [sq, bltD, nD_len]
  have hl0 : ((ps.length : Int) == 0) = false := by
    have : ps.length ≠ 0 := fun e => h0 (List.length_eq_zero_iff.mp e)
    simp only [beq_eq_false_iff_ne, ne_eq]; omega
  refine L_gen fun P' K hK hR => ?_
  simp only [L_nil, L_cons, S_expr, S_asg, S_asgT, S_par, S_parO, N_nil, N_tt, N_ff, setRs, S_setIx, S_ret, S_retN, S_ite, S_for, S_while, S_pass, S_scope, S_spoil, E_non, E_bl, E_int, E_str, E_var, E_op2, E_neg, E_cmp, E_isN, E_notN, E_chn, E_and, E_or, E_not, E_ite, E_lst, E_tup, E_ix, E_slc, E_rev, E_call, E_blt, E_isa, E_mth, E_lc, E_lrng, evA, evF, evS, evP, evIt, evCs, Out.z, Out.o, Out.t, bind_ok, bind_exc, bind_stuck, w_ok, w_exc, w_stuck, then_nx, then_rt, then_exc, then_stuck, Out.noX, wipeR_cons, wipeR_nil, backR_cons, backR_nil, backS_sh, backS_un, spoilS, clampS, Fl.top_hit, Fl.mk_hit, Fl.top_clamp, frz, frzs, opd, look, looks, rv, res, bin, bltD, cmpD, tru, ixD_l, ixD_t, nrm, imm, imms, Sd.ofOpt, setTs, setTg, Fl.top_top, Fl.at_eq, Fl.top_join, Fl.join_top, Fl.join_mk, Fl.top_lo, Nat.reduceLeDiff, seqOf_l, seqOf_t, asgS, backF, byName_nil, endW, List.getElem?_cons_succ, List.getElem?_cons_zero, List.set_cons_succ, List.set_cons_zero, List.length_cons, List.length_nil, List.length_map, List.length_append, List.map_cons, List.map_nil, Option.map_some, Option.map_none, if_true, if_false, ite_true, ite_false, Bool.false_eq_true, Bool.true_eq_false, Bool.not_true, Bool.not_false, Bool.true_and, Bool.false_and, Bool.and_true, Bool.and_false, Bool.true_or, Bool.false_or, Bool.or_true, Bool.or_false, decide_true, decide_false, startR_eq, List.replicate_succ, List.replicate_zero, List.append_nil, Nat.reduceAdd, Nat.reduceSub, Nat.sub_self, List.cons_append, List.nil_append, Option.getD_some, Option.getD_none, Option.bind_some, reduceIte, reduceCtorEq, sg_check_bottom, c1]
  refine hK _ (L_gen fun P' K hK hR => ?_)
  simp only [L_nil, L_cons, S_expr, S_asg, S_asgT, S_par, S_parO, N_nil, N_tt, N_ff, setRs, S_setIx, S_ret, S_retN, S_ite, S_for, S_while, S_pass, S_scope, S_spoil, E_non, E_bl, E_int, E_str, E_var, E_op2, E_neg, E_cmp, E_isN, E_notN, E_chn, E_and, E_or, E_not, E_ite, E_lst, E_tup, E_ix, E_slc, E_rev, E_call, E_blt, E_isa, E_mth, E_lc, E_lrng, evA, evF, evS, evP, evIt, evCs, Out.z, Out.o, Out.t, bind_ok, bind_exc, bind_stuck, w_ok, w_exc, w_stuck, then_nx, then_rt, then_exc, then_stuck, Out.noX, wipeR_cons, wipeR_nil, backR_cons, backR_nil, backS_sh, backS_un, spoilS, clampS, Fl.top_hit, Fl.mk_hit, Fl.top_clamp, frz, frzs, opd, look, looks, rv, res, bin, bltD, cmpD, tru, ixD_l, ixD_t, nrm, imm, imms, Sd.ofOpt, setTs, setTg, Fl.top_top, Fl.at_eq, Fl.top_join, Fl.join_top, Fl.join_mk, Fl.top_lo, Nat.reduceLeDiff, seqOf_l, seqOf_t, asgS, backF, byName_nil, endW, List.getElem?_cons_succ, List.getElem?_cons_zero, List.set_cons_succ, List.set_cons_zero, List.length_cons, List.length_nil, List.length_map, List.length_append, List.map_cons, List.map_nil, Option.map_some, Option.map_none, if_true, if_false, ite_true, ite_false, Bool.false_eq_true, Bool.true_eq_false, Bool.not_true, Bool.not_false, Bool.true_and, Bool.false_and, Bool.and_true, Bool.and_false, Bool.true_or, Bool.false_or, Bool.or_true, Bool.or_false, decide_true, decide_false, startR_eq, List.replicate_succ, List.replicate_zero, List.append_nil, Nat.reduceAdd, Nat.reduceSub, Nat.sub_self, List.cons_append, List.nil_append, Option.getD_some, Option.getD_none, Option.bind_some, reduceIte, reduceCtorEq, sg_is_list, c2]
  cases b with
  | true =>
    simp only [L_nil, L_cons, S_expr, S_asg, S_asgT, S_par, S_parO, N_nil, N_tt, N_ff, setRs, S_setIx, S_ret, S_retN, S_ite, S_for, S_while, S_pass, S_scope, S_spoil, E_non, E_bl, E_int, E_str, E_var, E_op2, E_neg, E_cmp, E_isN, E_notN, E_chn, E_and, E_or, E_not, E_ite, E_lst, E_tup, E_ix, E_slc, E_rev, E_call, E_blt, E_isa, E_mth, E_lc, E_lrng, evA, evF, evS, evP, evIt, evCs, Out.z, Out.o, Out.t, bind_ok, bind_exc, bind_stuck, w_ok, w_exc, w_stuck, then_nx, then_rt, then_exc, then_stuck, Out.noX, wipeR_cons, wipeR_nil, backR_cons, backR_nil, backS_sh, backS_un, spoilS, clampS, Fl.top_hit, Fl.mk_hit, Fl.top_clamp, frz, frzs, opd, look, looks, rv, res, bin, bltD, cmpD, tru, ixD_l, ixD_t, nrm, imm, imms, Sd.ofOpt, setTs, setTg, Fl.top_top, Fl.at_eq, Fl.top_join, Fl.join_top, Fl.join_mk, Fl.top_lo, Nat.reduceLeDiff, seqOf_l, seqOf_t, asgS, backF, byName_nil, endW, List.getElem?_cons_succ, List.getElem?_cons_zero, List.set_cons_succ, List.set_cons_zero, List.length_cons, List.length_nil, List.length_map, List.length_append, List.map_cons, List.map_nil, Option.map_some, Option.map_none, if_true, if_false, ite_true, ite_false, Bool.false_eq_true, Bool.true_eq_false, Bool.not_true, Bool.not_false, Bool.true_and, Bool.false_and, Bool.and_true, Bool.and_false, Bool.true_or, Bool.false_or, Bool.or_true, Bool.or_false, decide_true, decide_false, startR_eq, List.replicate_succ, List.replicate_zero, List.append_nil, Nat.reduceAdd, Nat.reduceSub, Nat.sub_self, List.cons_append, List.nil_append, Option.getD_some, Option.getD_none, Option.bind_some, reduceIte, reduceCtorEq, sq, nD_len, eqOk_i, eqD_i, hl0]
    exact hK _ (FwS_imp (chk_run h hp rfl s) fun c h => ⟨trivial, trivial, h⟩)
  | false =>
    simp only [L_nil, L_cons, S_expr, S_asg, S_asgT, S_par, S_parO, N_nil, N_tt, N_ff, setRs, S_setIx, S_ret, S_retN, S_ite, S_for, S_while, S_pass, S_scope, S_spoil, E_non, E_bl, E_int, E_str, E_var, E_op2, E_neg, E_cmp, E_isN, E_notN, E_chn, E_and, E_or, E_not, E_ite, E_lst, E_tup, E_ix, E_slc, E_rev, E_call, E_blt, E_isa, E_mth, E_lc, E_lrng, evA, evF, evS, evP, evIt, evCs, Out.z, Out.o, Out.t, bind_ok, bind_exc, bind_stuck, w_ok, w_exc, w_stuck, then_nx, then_rt, then_exc, then_stuck, Out.noX, wipeR_cons, wipeR_nil, backR_cons, backR_nil, backS_sh, backS_un, spoilS, clampS, Fl.top_hit, Fl.mk_hit, Fl.top_clamp, frz, frzs, opd, look, looks, rv, res, bin, bltD, cmpD, tru, ixD_l, ixD_t, nrm, imm, imms, Sd.ofOpt, setTs, setTg, Fl.top_top, Fl.at_eq, Fl.top_join, Fl.join_top, Fl.join_mk, Fl.top_lo, Nat.reduceLeDiff, seqOf_l, seqOf_t, asgS, backF, byName_nil, endW, List.getElem?_cons_succ, List.getElem?_cons_zero, List.set_cons_succ, List.set_cons_zero, List.length_cons, List.length_nil, List.length_map, List.length_append, List.map_cons, List.map_nil, Option.map_some, Option.map_none, if_true, if_false, ite_true, ite_false, Bool.false_eq_true, Bool.true_eq_false, Bool.not_true, Bool.not_false, Bool.true_and, Bool.false_and, Bool.and_true, Bool.and_false, Bool.true_or, Bool.false_or, Bool.or_true, Bool.or_false, decide_true, decide_false, startR_eq, List.replicate_succ, List.replicate_zero, List.append_nil, Nat.reduceAdd, Nat.reduceSub, Nat.sub_self, List.cons_append, List.nil_append, Option.getD_some, Option.getD_none, Option.bind_some, reduceIte, reduceCtorEq, sq, nD_len, eqOk_i, eqD_i, hl0]
    exact hK _ (FwS_imp (chk_run h hp rfl s) fun c h => ⟨trivial, trivial, h⟩)
theorem sg_check_points : sgOf Pr "check_points" = (["bottom", "points"] : List Str) := rfl
theorem c_beginning_fault (n : Nat) (b : Bool) (B : Nat) (ps : List Nat) (h : Pts B ps) (h0 : ps ≠ []) (hp : ∀ p ∈ ps, p < B) (s : List Stm) : callF Pr (n + 5) "beginning_fault" [.int (B : Int), sq b (nD ps)] s = some (.inl (Fl.top, optF (fault B ps), s)) := by
  have hst : ∃ fP, startR ⟨["bottom", "points"], ["bottom", "points", "many", "pair"], i_beginning_fault⟩ [.int (B : Int), sq b (nD ps)] = [.sh Fl.top (.int (B : Int)), .sh fP (sq b (nD ps)), .un, .un] := by
    cases b <;> simp only [Sd.ofOpt, setTg, setTs, w_ok, if_true, if_false, Bool.false_eq_true, List.set_cons_succ, List.set_cons_zero, startR_eq, List.map_cons, List.map_nil, List.length_cons, List.length_nil, List.replicate_succ, List.replicate_zero, List.cons_append, List.nil_append, nrm, imm, Nat.reduceAdd, Nat.reduceSub, sq] <;> exact ⟨_, rfl⟩
  obtain ⟨fP, hst⟩ := hst
  refine callF_rt l_beginning_fault rfl ?_
  rw [hst]
  have c1 := c_check_points n b B ps h h0 hp s
  show FwS (xL _ _ 1 false ((.expr (.call "check_points" [(.var 0), (.var 1)] [] [])) :: bfI "first_clash") _) _ _
  refine L_gen fun P' K hK hR => ?_
  simp only [L_nil, L_cons, S_expr, S_asg, S_asgT, S_par, S_parO, N_nil, N_tt, N_ff, setRs, S_setIx, S_ret, S_retN, S_ite, S_for, S_while, S_pass, S_scope, S_spoil, E_non, E_bl, E_int, E_str, E_var, E_op2, E_neg, E_cmp, E_isN, E_notN, E_chn, E_and, E_or, E_not, E_ite, E_lst, E_tup, E_ix, E_slc, E_rev, E_call, E_blt, E_isa, E_mth, E_lc, E_lrng, evA, evF, evS, evP, evIt, evCs, Out.z, Out.o, Out.t, bind_ok, bind_exc, bind_stuck, w_ok, w_exc, w_stuck, then_nx, then_rt, then_exc, then_stuck, Out.noX, wipeR_cons, wipeR_nil, backR_cons, backR_nil, backS_sh, backS_un, spoilS, clampS, Fl.top_hit, Fl.mk_hit, Fl.top_clamp, frz, frzs, opd, look, looks, rv, res, bin, bltD, cmpD, tru, ixD_l, ixD_t, nrm, imm, imms, Sd.ofOpt, setTs, setTg, Fl.top_top, Fl.at_eq, Fl.top_join, Fl.join_top, Fl.join_mk, Fl.top_lo, Nat.reduceLeDiff, seqOf_l, seqOf_t, asgS, backF, byName_nil, endW, List.getElem?_cons_succ, List.getElem?_cons_zero, List.set_cons_succ, List.set_cons_zero, List.length_cons, List.length_nil, List.length_map, List.length_append, List.map_cons, List.map_nil, Option.map_some, Option.map_none, if_true, if_false, ite_true, ite_false, Bool.false_eq_true, Bool.true_eq_false, Bool.not_true, Bool.not_false, Bool.true_and, Bool.false_and, Bool.and_true, Bool.and_false, Bool.true_or, Bool.false_or, Bool.or_true, Bool.or_false, decide_true, decide_false, startR_eq, List.replicate_succ, List.replicate_zero, List.append_nil, Nat.reduceAdd, Nat.reduceSub, Nat.sub_self, List.cons_append, List.nil_append, Option.getD_some, Option.getD_none, Option.bind_some, reduceIte, reduceCtorEq, sg_check_points, c1]
  exact hK _ (bf_run h s rfl .un .un fun m hm => c_first_clash (n + 3) b B m ps h hm s)
end Lk76

namespace Lk76
open PySem Sd
/-! ### the search, in plain words; ways are held backwards -/
def okR (B : Nat) (ws : List Nat) : Bool := (clash B ws.reverse ws.length).isNone
def srch (B : Nat) : Nat → List Nat → Option (List Nat)
  | 0, ws => some ws.reverse
  | k + 1, ws => (List.range B).findSome? fun p => if okR B (p :: ws) then srch B k (p :: ws) else none
def tryF (B M : Nat) (ws : List Nat) (h : Nat) : Option (List Nat) := ((List.range (B - h)).map (h + ·)).findSome? fun p => if okR B (p :: ws) then srch B (M - (ws.length + 1)) (p :: ws) else none
def rest (B M : Nat) : List Nat → Nat → Option (List Nat)
  | [], h => tryF B M [] h
  | w :: ws, h => (tryF B M (w :: ws) h).or (rest B M ws (w + 1))
def val (B M : Nat) (ws : List Nat) (h : Nat) : Option (List Nat) := if ws.length = M then some ws.reverse else rest B M ws h
theorem tryF_end {B M : Nat} {ws : List Nat} : tryF B M ws B = none := by
  unfold tryF; rw [Nat.sub_self]; rfl
theorem tryF_step {B M : Nat} {ws : List Nat} {h : Nat} (hh : h < B) : tryF B M ws h = (if okR B (h :: ws) then srch B (M - (ws.length + 1)) (h :: ws) else none).or (tryF B M ws (h + 1)) := by
  unfold tryF
  have e : B - h = (B - (h + 1)) + 1 := by omega
  rw [e, List.range_succ_eq_map, List.map_cons, List.findSome?_cons, List.map_map, Nat.add_zero]
  have e2 : ((h + ·) ∘ Nat.succ) = (h + 1 + ·) := by funext x; simp only [Function.comp]; omega
  rw [e2]
  cases (if okR B (h :: ws) then srch B (M - (ws.length + 1)) (h :: ws) else none) <;> rfl
theorem tryF_zero {B M : Nat} {ws : List Nat} (h : ws.length < M) : tryF B M ws 0 = srch B (M - ws.length) ws := by
  have e : M - ws.length = (M - (ws.length + 1)) + 1 := by omega
  unfold tryF
  rw [e, srch, Nat.sub_zero]
  have e2 : ((0 : Nat) + ·) = (id : Nat → Nat) := by funext x; simp
  rw [e2, List.map_id]
theorem rest_step {B M : Nat} {ws : List Nat} {h : Nat} (hh : h < B) : rest B M ws h = (if okR B (h :: ws) then srch B (M - (ws.length + 1)) (h :: ws) else none).or (rest B M ws (h + 1)) := by
  cases ws with
  | nil => simp only [rest]; exact tryF_step hh
  | cons w ws => simp only [rest]; rw [tryF_step hh, Option.or_assoc]
theorem val_clash {B M : Nat} {ws : List Nat} {h : Nat} (hl : ws.length < M) (hh : h < B) (ho : okR B (h :: ws) = false) : val B M ws h = val B M ws (h + 1) := by
  unfold val
  rw [if_neg (by omega), if_neg (by omega), rest_step hh, ho]; rfl
theorem val_in {B M : Nat} {ws : List Nat} {h : Nat} (hl : ws.length < M) (hh : h < B) (ho : okR B (h :: ws) = true) : val B M ws h = val B M (h :: ws) 0 := by
  unfold val
  rw [if_neg (by omega), rest_step hh, ho, if_pos rfl]
  by_cases e : (h :: ws).length = M
  · rw [if_pos e]
    rw [List.length_cons] at e
    rw [e, Nat.sub_self]; rfl
  · rw [if_neg e]
    rw [List.length_cons] at e
    simp only [rest]
    rw [tryF_zero (by rw [List.length_cons]; omega)]
    rfl
theorem val_out {B M : Nat} {w : Nat} {ws : List Nat} (hl : (w :: ws).length < M) : val B M (w :: ws) B = val B M ws (w + 1) := by
  rw [List.length_cons] at hl
  unfold val
  rw [if_neg (by rw [List.length_cons]; omega), if_neg (by omega)]
  simp only [rest]
  rw [tryF_end]; rfl
theorem val_end {B M : Nat} (hl : 0 < M) : val B M [] B = none := by
  unfold val
  rw [if_neg (by rw [List.length_nil]; omega)]
  exact tryF_end
theorem val_start {B M : Nat} (hl : 0 < M) : val B M [] 0 = srch B M [] := by
  unfold val
  rw [if_neg (by rw [List.length_nil]; omega)]
  exact tryF_zero (M := M) (ws := []) hl
/-- how much is left to look at -/
def meas (B M : Nat) : List Nat → Nat → Nat
  | [], h => (B + 1 - h) * (B + 2) ^ M
  | w :: ws, h => (B + 1 - h) * (B + 2) ^ (M - (ws.length + 1)) + meas B M ws (w + 1)
theorem pos_pow {B k : Nat} : 1 ≤ (B + 2) ^ k := Nat.pos_of_ne_zero (by simp)
theorem meas_clash {B M : Nat} {ws : List Nat} {h : Nat} (hh : h < B) : meas B M ws (h + 1) < meas B M ws h := by
  have e : B + 1 - h = (B + 1 - (h + 1)) + 1 := by omega
  cases ws with
  | nil => simp only [meas]; rw [e, Nat.succ_mul]; have := pos_pow (B := B) (k := M); omega
  | cons w ws => simp only [meas]; rw [e, Nat.succ_mul]; have := pos_pow (B := B) (k := M - (ws.length + 1)); omega
theorem meas_in {B M : Nat} {ws : List Nat} {h : Nat} (hl : ws.length < M) (hh : h < B) : meas B M (h :: ws) 0 < meas B M ws h := by
  have e : B + 1 - h = (B + 1 - (h + 1)) + 1 := by omega
  have key : ∀ k, (B + 1 - 0) * (B + 2) ^ k < (B + 2) ^ (k + 1) := fun k => by
    rw [Nat.pow_succ, Nat.mul_comm]
    exact Nat.mul_lt_mul_of_pos_left (by omega) pos_pow
  have k1 := key (M - (ws.length + 1))
  cases ws with
  | nil =>
    simp only [meas, List.length_nil] at k1 ⊢
    rw [e, Nat.succ_mul]
    have : M - (0 + 1) + 1 = M := by simp only [List.length_nil] at hl; omega
    rw [this] at k1
    omega
  | cons w ws =>
    simp only [meas, List.length_cons] at k1 ⊢
    rw [e, Nat.succ_mul]
    have : M - (ws.length + 1 + 1) + 1 = M - (ws.length + 1) := by simp only [List.length_cons] at hl; omega
    rw [this] at k1
    omega
theorem meas_out {B M : Nat} {w : Nat} {ws : List Nat} : meas B M ws (w + 1) < meas B M (w :: ws) B := by
  simp only [meas]
  have : B + 1 - B = 1 := by omega
  rw [this, Nat.one_mul]
  have := pos_pow (B := B) (k := M - (ws.length + 1)); omega
theorem meas_top {B M : Nat} (hB : B ≤ 30) (hM : M ≤ 8) : meas B M [] 0 < fuel := by
  simp only [meas]
  have h1 : (B + 2) ^ M ≤ 32 ^ 8 := Nat.le_trans (Nat.pow_le_pow_left (by omega) M) (Nat.pow_le_pow_right (by omega) hM)
  have h2 : (B + 1 - 0) * (B + 2) ^ M ≤ 31 * 32 ^ 8 := Nat.mul_le_mul (by omega) h1
  have h3 : 31 * 32 ^ 8 < fuel := by decide
  omega
/-! the law's own search -/
def lval (B M : Nat) (st : List (List Nat)) : Option (List Nat) := st.findSome? fun ws => srch B (M - ws.length) ws
def kids (B : Nat) (ws : List Nat) (i : Nat) : List (List Nat) := ((List.range i).filter fun p => okR B (p :: ws)).map (· :: ws)
theorem kids_succ {B i : Nat} {ws : List Nat} : kids B ws (i + 1) = kids B ws i ++ (if okR B (i :: ws) then [i :: ws] else []) := by
  unfold kids
  rw [List.range_succ, List.filter_append, List.map_append]
  congr 1
  simp only [List.filter_cons, List.filter_nil]
  split <;> rfl
theorem find_kids {B M : Nat} {ws : List Nat} (f : List Nat → Option (List Nat)) : ∀ (ps : List Nat), (((ps.filter fun p => okR B (p :: ws)).map (· :: ws)).findSome? f) = ps.findSome? fun p => if okR B (p :: ws) then f (p :: ws) else none
  | [] => rfl
  | p :: ps => by
    rw [List.filter_cons, List.findSome?_cons]
    have ih := find_kids (B := B) (M := M) (ws := ws) f ps
    cases okR B (p :: ws) with
    | true =>
      simp only [if_true]
      rw [List.map_cons, List.findSome?_cons, ih]
    | false =>
      simp only [Bool.false_eq_true, if_false]
      rw [ih]
theorem findSome_congr {α β : Type} {f g : α → Option β} : ∀ {xs : List α}, (∀ x ∈ xs, f x = g x) → xs.findSome? f = xs.findSome? g
  | [], _ => rfl
  | x :: xs, h => by
    rw [List.findSome?_cons, List.findSome?_cons, h x List.mem_cons_self, findSome_congr fun y hy => h y (List.mem_cons_of_mem _ hy)]
theorem lval_full {B M : Nat} {ws : List Nat} {st : List (List Nat)} (h : ws.length = M) : lval B M (ws :: st) = some ws.reverse := by
  unfold lval
  rw [List.findSome?_cons, h, Nat.sub_self]; rfl
theorem lval_step {B M : Nat} {ws : List Nat} {st : List (List Nat)} (h : ws.length < M) : lval B M (ws :: st) = lval B M (kids B ws B ++ st) := by
  unfold lval
  rw [List.findSome?_cons, List.findSome?_append]
  have e : M - ws.length = (M - (ws.length + 1)) + 1 := by omega
  rw [e, srch]
  unfold kids
  rw [find_kids (M := M)]
  simp only [List.length_cons]
  cases ((List.range B).findSome? fun p => if okR B (p :: ws) then srch B (M - (ws.length + 1)) (p :: ws) else none) <;> rfl
def lmeas (B M : Nat) (st : List (List Nat)) : Nat := (st.map fun ws => (B + 1) ^ (M - ws.length)).sum
theorem lmeas_kids {B M : Nat} {ws : List Nat} : ∀ (ps : List Nat), (((ps.filter fun p => okR B (p :: ws)).map (· :: ws)).map fun ws => (B + 1) ^ (M - ws.length)).sum ≤ ps.length * (B + 1) ^ (M - (ws.length + 1))
  | [] => Nat.zero_le _
  | p :: ps => by
    have ih := lmeas_kids (B := B) (M := M) (ws := ws) ps
    rw [List.filter_cons, List.length_cons, Nat.succ_mul]
    split
    · rw [List.map_cons, List.map_cons, List.sum_cons, List.length_cons]; omega
    · omega
theorem lmeas_step {B M : Nat} {ws : List Nat} {st : List (List Nat)} (h : ws.length < M) : lmeas B M (kids B ws B ++ st) < lmeas B M (ws :: st) := by
  unfold lmeas
  rw [List.map_append, List.sum_append, List.map_cons, List.sum_cons]
  have h1 := lmeas_kids (B := B) (M := M) (ws := ws) (List.range B)
  rw [List.length_range] at h1
  have e : M - ws.length = (M - (ws.length + 1)) + 1 := by omega
  have h2 : 1 ≤ (B + 1) ^ (M - (ws.length + 1)) := Nat.pos_of_ne_zero (by simp)
  have h3 : (B + 1) ^ (M - ws.length) = B * (B + 1) ^ (M - (ws.length + 1)) + (B + 1) ^ (M - (ws.length + 1)) := by
    rw [e, Nat.pow_succ, Nat.mul_comm, Nat.succ_mul]
  unfold kids
  omega
theorem lmeas_top {B M : Nat} (hB : B ≤ 30) (hM : M ≤ 8) : lmeas B M [[]] < fuel := by
  have e : lmeas B M [[]] = (B + 1) ^ M := by unfold lmeas; simp
  rw [e]
  have h1 : (B + 1) ^ M ≤ 31 ^ 8 := Nat.le_trans (Nat.pow_le_pow_left (by omega) M) (Nat.pow_le_pow_right (by omega) hM)
  have h3 : 31 ^ 8 < fuel := by decide
  omega
/-- the ways that wait are never many -/
def few (B : Nat) : List (List Nat) → Prop
  | [] => True
  | ws :: st => st.length ≤ B * ws.length ∧ few B st
/-! a found line has no fault -/
theorem clash_pre {B m p : Nat} {w : List Nat} (h : m ≤ w.length) : clash B (w ++ [p]) m = clash B w m := by
  unfold clash clashQ
  refine findI_cg (fun i hi => ?_) fun i hi => List.mem_range.mp hi
  unfold part
  rw [List.getD_eq_getElem?_getD, List.getD_eq_getElem?_getD, List.getElem?_append_left (by omega)]
theorem findSome_some {α β : Type} {f : α → Option β} {y : β} : ∀ {xs : List α}, xs.findSome? f = some y → ∃ x ∈ xs, f x = some y
  | [], h => by cases h
  | x :: xs, h => by
    rw [List.findSome?_cons] at h
    cases e : f x with
    | some z => rw [e] at h; exact ⟨x, List.mem_cons_self, by rw [e]; exact h⟩
    | none => rw [e] at h; obtain ⟨z, hz, e2⟩ := findSome_some h; exact ⟨z, List.mem_cons_of_mem _ hz, e2⟩
theorem srch_ok {B : Nat} : ∀ {k : Nat} {ws r : List Nat}, srch B k ws = some r → (∀ m, m ≤ ws.length → clash B ws.reverse m = none) → (∀ p ∈ ws, p < B) → r.length = ws.length + k ∧ (∀ m, m ≤ r.length → clash B r m = none) ∧ ∀ p ∈ r, p < B
  | 0, ws, r, h, hc, hp => by
    cases h
    refine ⟨by simp, fun m hm => hc m (by simpa using hm), fun p hm => hp p (by simpa using hm)⟩
  | k + 1, ws, r, h, hc, hp => by
    rw [srch] at h
    obtain ⟨p, hm, h2⟩ := findSome_some h
    have hm := List.mem_range.mp hm
    split at h2
    · rename_i ho
      have := srch_ok h2 (fun m hm => ?_) (fun q hq => ?_)
      · refine ⟨by rw [this.1, List.length_cons]; omega, this.2⟩
      · rw [List.reverse_cons]
        by_cases e : m ≤ ws.length
        · rw [clash_pre (by rw [List.length_reverse]; exact e)]; exact hc m e
        · rw [List.length_cons] at hm
          have e2 : m = ws.length + 1 := by omega
          unfold okR at ho
          rw [List.reverse_cons, List.length_cons, ← e2, Option.isNone_iff_eq_none] at ho
          exact ho
      · rcases List.mem_cons.mp hq with rfl | hq
        · exact hm
        · exact hp q hq
    · cases h2
theorem clash_nil {B : Nat} {w : List Nat} : clash B w 0 = none := rfl
theorem line_ok {B M : Nat} {r : List Nat} (h : srch B M [] = some r) : r.length = M ∧ (∀ m, m ≤ r.length → clash B r m = none) ∧ ∀ p ∈ r, p < B := by
  have := srch_ok h (fun m hm => by cases m with | zero => rfl | succ m => simp at hm) (fun p hp => by cases hp)
  rw [List.length_nil, Nat.zero_add] at this
  exact this
theorem faultM_none {B : Nat} {r : List Nat} : ∀ {ms : List Nat}, (∀ m ∈ ms, clash B r m = none) → faultM B r ms = none
  | [], _ => rfl
  | m :: ms, h => by
    simp only [faultM]
    rw [h m List.mem_cons_self]
    exact faultM_none fun x hx => h x (List.mem_cons_of_mem _ hx)
theorem fault_line {B M : Nat} {r : List Nat} (h : srch B M [] = some r) : fault B r = none := by
  unfold fault
  refine faultM_none fun m hm => ?_
  obtain ⟨k, hk, rfl⟩ := List.mem_map.mp hm
  have := List.mem_range.mp hk
  exact (line_ok h).2.1 _ (by omega)
end Lk76

namespace Lk76
open PySem Sd
theorem L_while {cl : Caller} {sg : Sig} {lv : Nat} {sp : Bool} {c : C} {t : IE} {body is : List IS} {N : C → Prop} {Q : Fw → Prop} (I : Nat → C → Prop) {m : Nat} (hm : m < fuel) (hI : I m c)
    (hs : ∀ m c, I m c → (∃ c', (evE cl sg lv t c).t lv = .ok true c' ∧ FwS (xL cl sg lv false body c') (fun c2 => ∃ m', m' < m ∧ I m' c2) Q) ∨ (∃ c', (evE cl sg lv t c).t lv = .ok false c' ∧ FwS (xL cl sg lv sp is c') N Q)) :
    FwS (xL cl sg lv sp (.while t body :: is) c) N Q := by
  rw [L_cons, S_while]
  generalize fuel = n at hm
  induction n generalizing m c with
  | zero => omega
  | succ n ih =>
    rw [whD_succ]
    rcases hs m c hI with ⟨c', e, h⟩ | ⟨c', e, h⟩
    · rw [e, w_ok, if_pos rfl]
      cases e2 : xL cl sg lv false body c' with
      | nx c2 =>
        rw [e2] at h
        obtain ⟨m', hl, hi⟩ := h
        exact ih hi (by omega)
      | rt f d c2 => rw [e2] at h; exact h
      | exc f c2 => rw [e2] at h; exact h
      | stuck => rw [e2] at h; exact h.elim
    · rw [e, w_ok, if_neg (by decide)]
      exact h
theorem eqOks_nD {n : Nat} : ∀ {ps : List Nat}, eqOks n (nD ps) = true
  | [] => by unfold nD; simp only [List.map_nil, eqOks]
  | p :: ps => by
    have := eqOks_nD (n := n) (ps := ps)
    unfold nD at this ⊢
    simp only [List.map_cons, eqOks, eqOk_i, this, Bool.and_self]
theorem eqOk_nD {n : Nat} {ps : List Nat} : eqOk (n + 1) (.lst (nD ps)) = true := by simp only [eqOk, eqOks_nD]
theorem eqD_nil {xs : List D} : eqD (.lst xs) (.lst []) = xs.isEmpty := by cases xs <;> simp only [eqD, eqDs, List.isEmpty]
theorem nD_snoc {w : Nat} {ws : List Nat} : nD (w :: ws).reverse = nD ws.reverse ++ [.int (w : Int)] := by unfold nD; simp
theorem mth_pop {xs : List D} {d : D} : mthD .pop (xs ++ [d]) [] = some (d, xs) := by
  simp only [mthD, List.length_append, List.length_cons, List.length_nil]
  rw [show xs.length + (0 + 1) - 1 = xs.length by omega, List.getElem?_concat_length, List.dropLast_concat]
theorem mth_app {xs : List D} {d : D} (h : xs.length < SZ) : mthD .append xs [d] = some (.non, xs ++ [d]) := by
  simp only [mthD, if_pos h]
def optL : Option (List Nat) → D
  | none => .non
  | some r => .lst (nD r)
def optFl : Option (List Nat) → Fl
  | none => Fl.top
  | some r => Fl.at 1
theorem sg_first_clash : sgOf Pr "first_clash" = (["bottom", "points", "many"] : List Str) := rfl
theorem c_fair_line (n : Nat) (B M : Nat) (hB1 : 1 ≤ B) (hB : B ≤ 30) (hM1 : 1 ≤ M) (hM : M ≤ 8) (s : List Stm) : callF Pr (n + 4) "fair_line" [.int (B : Int), .int (M : Int)] s = some (.inl (optFl (srch B M []), optL (srch B M []), s)) := by
  have k1 := c_check_bottom (n + 1) (B : Int) (by omega) s
  have k2 := c_check_many (n + 1) (M : Int) (by omega) s
  have q0 : eqOk 60 (.lst []) = true := rfl
  refine callF_rt l_fair_line rfl ?_
  simp only [Sd.ofOpt, setTg, setTs, w_ok, if_true, if_false, Bool.false_eq_true, List.set_cons_succ, List.set_cons_zero, startR_eq, List.map_cons, List.map_nil, List.length_cons, List.length_nil, List.replicate_succ, List.replicate_zero, List.cons_append, List.nil_append, nrm, imm, Nat.reduceAdd, Nat.reduceSub, i_fair_line]
  refine L_gen fun P' K hK hR => ?_
  simp only [L_nil, L_cons, S_expr, S_asg, S_asgT, S_par, S_parO, N_nil, N_tt, N_ff, setRs, S_setIx, S_ret, S_retN, S_ite, S_for, S_while, S_pass, S_scope, S_spoil, E_non, E_bl, E_int, E_str, E_var, E_op2, E_neg, E_cmp, E_isN, E_notN, E_chn, E_and, E_or, E_not, E_ite, E_lst, E_tup, E_ix, E_slc, E_rev, E_call, E_blt, E_isa, E_mth, E_lc, E_lrng, evA, evF, evS, evP, evIt, evCs, Out.z, Out.o, Out.t, bind_ok, bind_exc, bind_stuck, w_ok, w_exc, w_stuck, then_nx, then_rt, then_exc, then_stuck, Out.noX, wipeR_cons, wipeR_nil, backR_cons, backR_nil, backS_sh, backS_un, spoilS, clampS, Fl.top_hit, Fl.mk_hit, Fl.top_clamp, frz, frzs, opd, look, looks, rv, res, bin, bltD, cmpD, tru, ixD_l, ixD_t, nrm, imm, imms, Sd.ofOpt, setTs, setTg, Fl.top_top, Fl.at_eq, Fl.top_join, Fl.join_top, Fl.join_mk, Fl.top_lo, Nat.reduceLeDiff, seqOf_l, seqOf_t, asgS, backF, byName_nil, endW, List.getElem?_cons_succ, List.getElem?_cons_zero, List.set_cons_succ, List.set_cons_zero, List.length_cons, List.length_nil, List.length_map, List.length_append, List.map_cons, List.map_nil, Option.map_some, Option.map_none, if_true, if_false, ite_true, ite_false, Bool.false_eq_true, Bool.true_eq_false, Bool.not_true, Bool.not_false, Bool.true_and, Bool.false_and, Bool.and_true, Bool.and_false, Bool.true_or, Bool.false_or, Bool.or_true, Bool.or_false, decide_true, decide_false, startR_eq, List.replicate_succ, List.replicate_zero, List.append_nil, Nat.reduceAdd, Nat.reduceSub, Nat.sub_self, List.cons_append, List.nil_append, Option.getD_some, Option.getD_none, Option.bind_some, reduceIte, reduceCtorEq, sg_check_bottom, k1]
  refine hK _ (L_gen fun P' K hK hR => ?_)
  simp only [L_nil, L_cons, S_expr, S_asg, S_asgT, S_par, S_parO, N_nil, N_tt, N_ff, setRs, S_setIx, S_ret, S_retN, S_ite, S_for, S_while, S_pass, S_scope, S_spoil, E_non, E_bl, E_int, E_str, E_var, E_op2, E_neg, E_cmp, E_isN, E_notN, E_chn, E_and, E_or, E_not, E_ite, E_lst, E_tup, E_ix, E_slc, E_rev, E_call, E_blt, E_isa, E_mth, E_lc, E_lrng, evA, evF, evS, evP, evIt, evCs, Out.z, Out.o, Out.t, bind_ok, bind_exc, bind_stuck, w_ok, w_exc, w_stuck, then_nx, then_rt, then_exc, then_stuck, Out.noX, wipeR_cons, wipeR_nil, backR_cons, backR_nil, backS_sh, backS_un, spoilS, clampS, Fl.top_hit, Fl.mk_hit, Fl.top_clamp, frz, frzs, opd, look, looks, rv, res, bin, bltD, cmpD, tru, ixD_l, ixD_t, nrm, imm, imms, Sd.ofOpt, setTs, setTg, Fl.top_top, Fl.at_eq, Fl.top_join, Fl.join_top, Fl.join_mk, Fl.top_lo, Nat.reduceLeDiff, seqOf_l, seqOf_t, asgS, backF, byName_nil, endW, List.getElem?_cons_succ, List.getElem?_cons_zero, List.set_cons_succ, List.set_cons_zero, List.length_cons, List.length_nil, List.length_map, List.length_append, List.map_cons, List.map_nil, Option.map_some, Option.map_none, if_true, if_false, ite_true, ite_false, Bool.false_eq_true, Bool.true_eq_false, Bool.not_true, Bool.not_false, Bool.true_and, Bool.false_and, Bool.and_true, Bool.and_false, Bool.true_or, Bool.false_or, Bool.or_true, Bool.or_false, decide_true, decide_false, startR_eq, List.replicate_succ, List.replicate_zero, List.append_nil, Nat.reduceAdd, Nat.reduceSub, Nat.sub_self, List.cons_append, List.nil_append, Option.getD_some, Option.getD_none, Option.bind_some, reduceIte, reduceCtorEq, sg_check_many, k2]
  refine hK _ (L_gen fun P' K hK hR => ?_)
  simp only [L_nil, L_cons, S_expr, S_asg, S_asgT, S_par, S_parO, N_nil, N_tt, N_ff, setRs, S_setIx, S_ret, S_retN, S_ite, S_for, S_while, S_pass, S_scope, S_spoil, E_non, E_bl, E_int, E_str, E_var, E_op2, E_neg, E_cmp, E_isN, E_notN, E_chn, E_and, E_or, E_not, E_ite, E_lst, E_tup, E_ix, E_slc, E_rev, E_call, E_blt, E_isa, E_mth, E_lc, E_lrng, evA, evF, evS, evP, evIt, evCs, Out.z, Out.o, Out.t, bind_ok, bind_exc, bind_stuck, w_ok, w_exc, w_stuck, then_nx, then_rt, then_exc, then_stuck, Out.noX, wipeR_cons, wipeR_nil, backR_cons, backR_nil, backS_sh, backS_un, spoilS, clampS, Fl.top_hit, Fl.mk_hit, Fl.top_clamp, frz, frzs, opd, look, looks, rv, res, bin, bltD, cmpD, tru, ixD_l, ixD_t, nrm, imm, imms, Sd.ofOpt, setTs, setTg, Fl.top_top, Fl.at_eq, Fl.top_join, Fl.join_top, Fl.join_mk, Fl.top_lo, Nat.reduceLeDiff, seqOf_l, seqOf_t, asgS, backF, byName_nil, endW, List.getElem?_cons_succ, List.getElem?_cons_zero, List.set_cons_succ, List.set_cons_zero, List.length_cons, List.length_nil, List.length_map, List.length_append, List.map_cons, List.map_nil, Option.map_some, Option.map_none, if_true, if_false, ite_true, ite_false, Bool.false_eq_true, Bool.true_eq_false, Bool.not_true, Bool.not_false, Bool.true_and, Bool.false_and, Bool.and_true, Bool.and_false, Bool.true_or, Bool.false_or, Bool.or_true, Bool.or_false, decide_true, decide_false, startR_eq, List.replicate_succ, List.replicate_zero, List.append_nil, Nat.reduceAdd, Nat.reduceSub, Nat.sub_self, List.cons_append, List.nil_append, Option.getD_some, Option.getD_none, Option.bind_some, reduceIte, reduceCtorEq]
  refine hK _ (L_while (fun m c => ∃ (ws : List Nat) (h : Nat), c = ⟨[.sh Fl.top (.int (B : Int)), .sh Fl.top (.int (M : Int)), .ow Fl.top (.lst (nD ws.reverse)), .sh Fl.top (.int (h : Int))], s⟩ ∧ m = meas B M ws h ∧ ws.length ≤ M ∧ h ≤ B ∧ (∀ w ∈ ws, w < B) ∧ val B M ws h = srch B M []) (meas_top hB hM) ⟨[], 0, rfl, rfl, by simp, by omega, by simp, val_start hM1⟩ ?_)
  rintro m c ⟨ws, h, rfl, rfl, hl, hh, hw, hv⟩
  by_cases hf : ws.length < M
  · left
    have t1 := decide_eq_true (show (ws.length : Int) < (M : Int) by omega)
    refine ⟨_, (by
      simp only [L_nil, L_cons, S_expr, S_asg, S_asgT, S_par, S_parO, N_nil, N_tt, N_ff, setRs, S_setIx, S_ret, S_retN, S_ite, S_for, S_while, S_pass, S_scope, S_spoil, E_non, E_bl, E_int, E_str, E_var, E_op2, E_neg, E_cmp, E_isN, E_notN, E_chn, E_and, E_or, E_not, E_ite, E_lst, E_tup, E_ix, E_slc, E_rev, E_call, E_blt, E_isa, E_mth, E_lc, E_lrng, evA, evF, evS, evP, evIt, evCs, Out.z, Out.o, Out.t, bind_ok, bind_exc, bind_stuck, w_ok, w_exc, w_stuck, then_nx, then_rt, then_exc, then_stuck, Out.noX, wipeR_cons, wipeR_nil, backR_cons, backR_nil, backS_sh, backS_un, spoilS, clampS, Fl.top_hit, Fl.mk_hit, Fl.top_clamp, frz, frzs, opd, look, looks, rv, res, bin, bltD, cmpD, tru, ixD_l, ixD_t, nrm, imm, imms, Sd.ofOpt, setTs, setTg, Fl.top_top, Fl.at_eq, Fl.top_join, Fl.join_top, Fl.join_mk, Fl.top_lo, Nat.reduceLeDiff, seqOf_l, seqOf_t, asgS, backF, byName_nil, endW, List.getElem?_cons_succ, List.getElem?_cons_zero, List.set_cons_succ, List.set_cons_zero, List.length_cons, List.length_nil, List.length_map, List.length_append, List.map_cons, List.map_nil, Option.map_some, Option.map_none, if_true, if_false, ite_true, ite_false, Bool.false_eq_true, Bool.true_eq_false, Bool.not_true, Bool.not_false, Bool.true_and, Bool.false_and, Bool.and_true, Bool.and_false, Bool.true_or, Bool.false_or, Bool.or_true, Bool.or_false, decide_true, decide_false, startR_eq, List.replicate_succ, List.replicate_zero, List.append_nil, Nat.reduceAdd, Nat.reduceSub, Nat.sub_self, List.cons_append, List.nil_append, Option.getD_some, Option.getD_none, Option.bind_some, reduceIte, reduceCtorEq, nD_len, List.length_reverse, t1]
      rfl), ?_⟩
    by_cases he : h = B
    · subst he
      cases ws with
      | nil =>
        refine L_gen fun P' K hK hR => ?_
        simp only [L_nil, L_cons, S_expr, S_asg, S_asgT, S_par, S_parO, N_nil, N_tt, N_ff, setRs, S_setIx, S_ret, S_retN, S_ite, S_for, S_while, S_pass, S_scope, S_spoil, E_non, E_bl, E_int, E_str, E_var, E_op2, E_neg, E_cmp, E_isN, E_notN, E_chn, E_and, E_or, E_not, E_ite, E_lst, E_tup, E_ix, E_slc, E_rev, E_call, E_blt, E_isa, E_mth, E_lc, E_lrng, evA, evF, evS, evP, evIt, evCs, Out.z, Out.o, Out.t, bind_ok, bind_exc, bind_stuck, w_ok, w_exc, w_stuck, then_nx, then_rt, then_exc, then_stuck, Out.noX, wipeR_cons, wipeR_nil, backR_cons, backR_nil, backS_sh, backS_un, spoilS, clampS, Fl.top_hit, Fl.mk_hit, Fl.top_clamp, frz, frzs, opd, look, looks, rv, res, bin, bltD, cmpD, tru, ixD_l, ixD_t, nrm, imm, imms, Sd.ofOpt, setTs, setTg, Fl.top_top, Fl.at_eq, Fl.top_join, Fl.join_top, Fl.join_mk, Fl.top_lo, Nat.reduceLeDiff, seqOf_l, seqOf_t, asgS, backF, byName_nil, endW, List.getElem?_cons_succ, List.getElem?_cons_zero, List.set_cons_succ, List.set_cons_zero, List.length_cons, List.length_nil, List.length_map, List.length_append, List.map_cons, List.map_nil, Option.map_some, Option.map_none, if_true, if_false, ite_true, ite_false, Bool.false_eq_true, Bool.true_eq_false, Bool.not_true, Bool.not_false, Bool.true_and, Bool.false_and, Bool.and_true, Bool.and_false, Bool.true_or, Bool.false_or, Bool.or_true, Bool.or_false, decide_true, decide_false, startR_eq, List.replicate_succ, List.replicate_zero, List.append_nil, Nat.reduceAdd, Nat.reduceSub, Nat.sub_self, List.cons_append, List.nil_append, Option.getD_some, Option.getD_none, Option.bind_some, reduceIte, reduceCtorEq, eqOk_i, eqD_i, beq_self_eq_true, eqOk_nD, q0, eqD_nil, List.reverse_nil, nD, List.isEmpty_nil, Nat.zero_le]
        have e : srch h M [] = none := by rw [← hv]; exact val_end (by omega)
        refine hR _ _ _ ?_
        rw [e]
        exact ⟨rfl, rfl, rfl⟩
      | cons w ws =>
        refine L_gen fun P' K hK hR => ?_
        have p1 : (nD (w :: ws).reverse).isEmpty = false := by rw [nD_snoc]; simp
        have p2 : mthD .pop (nD (w :: ws).reverse) [] = some (.int (w : Int), nD ws.reverse) := by rw [nD_snoc]; exact mth_pop
        simp only [L_nil, L_cons, S_expr, S_asg, S_asgT, S_par, S_parO, N_nil, N_tt, N_ff, setRs, S_setIx, S_ret, S_retN, S_ite, S_for, S_while, S_pass, S_scope, S_spoil, E_non, E_bl, E_int, E_str, E_var, E_op2, E_neg, E_cmp, E_isN, E_notN, E_chn, E_and, E_or, E_not, E_ite, E_lst, E_tup, E_ix, E_slc, E_rev, E_call, E_blt, E_isa, E_mth, E_lc, E_lrng, evA, evF, evS, evP, evIt, evCs, Out.z, Out.o, Out.t, bind_ok, bind_exc, bind_stuck, w_ok, w_exc, w_stuck, then_nx, then_rt, then_exc, then_stuck, Out.noX, wipeR_cons, wipeR_nil, backR_cons, backR_nil, backS_sh, backS_un, spoilS, clampS, Fl.top_hit, Fl.mk_hit, Fl.top_clamp, frz, frzs, opd, look, looks, rv, res, bin, bltD, cmpD, tru, ixD_l, ixD_t, nrm, imm, imms, Sd.ofOpt, setTs, setTg, Fl.top_top, Fl.at_eq, Fl.top_join, Fl.join_top, Fl.join_mk, Fl.top_lo, Nat.reduceLeDiff, seqOf_l, seqOf_t, asgS, backF, byName_nil, endW, List.getElem?_cons_succ, List.getElem?_cons_zero, List.set_cons_succ, List.set_cons_zero, List.length_cons, List.length_nil, List.length_map, List.length_append, List.map_cons, List.map_nil, Option.map_some, Option.map_none, if_true, if_false, ite_true, ite_false, Bool.false_eq_true, Bool.true_eq_false, Bool.not_true, Bool.not_false, Bool.true_and, Bool.false_and, Bool.and_true, Bool.and_false, Bool.true_or, Bool.false_or, Bool.or_true, Bool.or_false, decide_true, decide_false, startR_eq, List.replicate_succ, List.replicate_zero, List.append_nil, Nat.reduceAdd, Nat.reduceSub, Nat.sub_self, List.cons_append, List.nil_append, Option.getD_some, Option.getD_none, Option.bind_some, reduceIte, reduceCtorEq, eqOk_i, eqD_i, beq_self_eq_true, eqOk_nD, q0, eqD_nil, p1, p2, isOwnL, Nat.zero_le]
        rw [List.length_cons] at hl hf
        refine hK _ (L_end ⟨_, meas_out, ws, w + 1, by rw [Int.natCast_succ], rfl, by omega, hw w List.mem_cons_self, fun x hx => hw x (List.mem_cons_of_mem _ hx), ?_⟩)
        rw [← hv]; exact (val_out (by rw [List.length_cons]; exact hf)).symm
    · have d1 : decide (h = B) = false := decide_eq_false he
      have hh2 : h < B := by omega
      have hpts : Pts B (h :: ws).reverse := ⟨hB1, by omega, by rw [List.length_reverse, List.length_cons]; omega, fun q hq => by
        rw [List.mem_reverse] at hq
        rcases List.mem_cons.mp hq with rfl | hq
        · omega
        · have := hw q hq; omega⟩
      have hc := c_first_clash (n + 2) true B (ws.length + 1) (h :: ws).reverse hpts (by rw [List.length_reverse, List.length_cons]; omega) s
      rw [nD_snoc] at hc
      simp only [sq] at hc
      have hz : ws.length + 1 ≤ SZ := by unfold SZ; omega
      have e1 : (ws.length : Int) + 1 = ((ws.length + 1 : Nat) : Int) := by omega
      have hap : mthD .append (nD ws.reverse) [.int (h : Int)] = some (.non, nD (h :: ws).reverse) := by
        rw [nD_snoc]; exact mth_app (by rw [nD_len, List.length_reverse]; unfold SZ; omega)
      cases ec : clash B (h :: ws).reverse (ws.length + 1) with
      | none =>
        rw [ec] at hc
        have ho : okR B (h :: ws) = true := by unfold okR; rw [List.length_cons, ec]; rfl
        refine L_gen fun P' K hK hR => ?_
        simp only [L_nil, L_cons, S_expr, S_asg, S_asgT, S_par, S_parO, N_nil, N_tt, N_ff, setRs, S_setIx, S_ret, S_retN, S_ite, S_for, S_while, S_pass, S_scope, S_spoil, E_non, E_bl, E_int, E_str, E_var, E_op2, E_neg, E_cmp, E_isN, E_notN, E_chn, E_and, E_or, E_not, E_ite, E_lst, E_tup, E_ix, E_slc, E_rev, E_call, E_blt, E_isa, E_mth, E_lc, E_lrng, evA, evF, evS, evP, evIt, evCs, Out.z, Out.o, Out.t, bind_ok, bind_exc, bind_stuck, w_ok, w_exc, w_stuck, then_nx, then_rt, then_exc, then_stuck, Out.noX, wipeR_cons, wipeR_nil, backR_cons, backR_nil, backS_sh, backS_un, spoilS, clampS, Fl.top_hit, Fl.mk_hit, Fl.top_clamp, frz, frzs, opd, look, looks, rv, res, bin, bltD, cmpD, tru, ixD_l, ixD_t, nrm, imm, imms, Sd.ofOpt, setTs, setTg, Fl.top_top, Fl.at_eq, Fl.top_join, Fl.join_top, Fl.join_mk, Fl.top_lo, Nat.reduceLeDiff, seqOf_l, seqOf_t, asgS, backF, byName_nil, endW, List.getElem?_cons_succ, List.getElem?_cons_zero, List.set_cons_succ, List.set_cons_zero, List.length_cons, List.length_nil, List.length_map, List.length_append, List.map_cons, List.map_nil, Option.map_some, Option.map_none, if_true, if_false, ite_true, ite_false, Bool.false_eq_true, Bool.true_eq_false, Bool.not_true, Bool.not_false, Bool.true_and, Bool.false_and, Bool.and_true, Bool.and_false, Bool.true_or, Bool.false_or, Bool.or_true, Bool.or_false, decide_true, decide_false, startR_eq, List.replicate_succ, List.replicate_zero, List.append_nil, Nat.reduceAdd, Nat.reduceSub, Nat.sub_self, List.cons_append, List.nil_append, Option.getD_some, Option.getD_none, Option.bind_some, reduceIte, reduceCtorEq, eqOk_i, eqD_i, beqN, d1, nD_len, List.length_reverse, e1, hz, sg_first_clash, hc, optP, hap, isOwnL]
        refine hK _ (L_end ⟨_, meas_in hf hh2, h :: ws, 0, rfl, rfl, by rw [List.length_cons]; omega, by omega, fun x hx => ?_, by rw [← val_in hf hh2 ho]; exact hv⟩)
        rcases List.mem_cons.mp hx with rfl | hx
        · exact hh2
        · exact hw x hx
      | some p =>
        rw [ec] at hc
        have ho : okR B (h :: ws) = false := by unfold okR; rw [List.length_cons, ec]; rfl
        obtain ⟨i, j⟩ := p
        refine L_gen fun P' K hK hR => ?_
        simp only [L_nil, L_cons, S_expr, S_asg, S_asgT, S_par, S_parO, N_nil, N_tt, N_ff, setRs, S_setIx, S_ret, S_retN, S_ite, S_for, S_while, S_pass, S_scope, S_spoil, E_non, E_bl, E_int, E_str, E_var, E_op2, E_neg, E_cmp, E_isN, E_notN, E_chn, E_and, E_or, E_not, E_ite, E_lst, E_tup, E_ix, E_slc, E_rev, E_call, E_blt, E_isa, E_mth, E_lc, E_lrng, evA, evF, evS, evP, evIt, evCs, Out.z, Out.o, Out.t, bind_ok, bind_exc, bind_stuck, w_ok, w_exc, w_stuck, then_nx, then_rt, then_exc, then_stuck, Out.noX, wipeR_cons, wipeR_nil, backR_cons, backR_nil, backS_sh, backS_un, spoilS, clampS, Fl.top_hit, Fl.mk_hit, Fl.top_clamp, frz, frzs, opd, look, looks, rv, res, bin, bltD, cmpD, tru, ixD_l, ixD_t, nrm, imm, imms, Sd.ofOpt, setTs, setTg, Fl.top_top, Fl.at_eq, Fl.top_join, Fl.join_top, Fl.join_mk, Fl.top_lo, Nat.reduceLeDiff, seqOf_l, seqOf_t, asgS, backF, byName_nil, endW, List.getElem?_cons_succ, List.getElem?_cons_zero, List.set_cons_succ, List.set_cons_zero, List.length_cons, List.length_nil, List.length_map, List.length_append, List.map_cons, List.map_nil, Option.map_some, Option.map_none, if_true, if_false, ite_true, ite_false, Bool.false_eq_true, Bool.true_eq_false, Bool.not_true, Bool.not_false, Bool.true_and, Bool.false_and, Bool.and_true, Bool.and_false, Bool.true_or, Bool.false_or, Bool.or_true, Bool.or_false, decide_true, decide_false, startR_eq, List.replicate_succ, List.replicate_zero, List.append_nil, Nat.reduceAdd, Nat.reduceSub, Nat.sub_self, List.cons_append, List.nil_append, Option.getD_some, Option.getD_none, Option.bind_some, reduceIte, reduceCtorEq, eqOk_i, eqD_i, beqN, d1, nD_len, List.length_reverse, e1, hz, sg_first_clash, hc, optP, hap, isOwnL]
        exact hK _ (L_end ⟨_, meas_clash hh2, ws, h + 1, by rw [Int.natCast_succ], rfl, hl, hh2, hw, by rw [← val_clash hf hh2 ho]; exact hv⟩)
  · right
    have t1 := decide_eq_false (show ¬ (ws.length : Int) < (M : Int) by omega)
    refine ⟨_, (by
      simp only [L_nil, L_cons, S_expr, S_asg, S_asgT, S_par, S_parO, N_nil, N_tt, N_ff, setRs, S_setIx, S_ret, S_retN, S_ite, S_for, S_while, S_pass, S_scope, S_spoil, E_non, E_bl, E_int, E_str, E_var, E_op2, E_neg, E_cmp, E_isN, E_notN, E_chn, E_and, E_or, E_not, E_ite, E_lst, E_tup, E_ix, E_slc, E_rev, E_call, E_blt, E_isa, E_mth, E_lc, E_lrng, evA, evF, evS, evP, evIt, evCs, Out.z, Out.o, Out.t, bind_ok, bind_exc, bind_stuck, w_ok, w_exc, w_stuck, then_nx, then_rt, then_exc, then_stuck, Out.noX, wipeR_cons, wipeR_nil, backR_cons, backR_nil, backS_sh, backS_un, spoilS, clampS, Fl.top_hit, Fl.mk_hit, Fl.top_clamp, frz, frzs, opd, look, looks, rv, res, bin, bltD, cmpD, tru, ixD_l, ixD_t, nrm, imm, imms, Sd.ofOpt, setTs, setTg, Fl.top_top, Fl.at_eq, Fl.top_join, Fl.join_top, Fl.join_mk, Fl.top_lo, Nat.reduceLeDiff, seqOf_l, seqOf_t, asgS, backF, byName_nil, endW, List.getElem?_cons_succ, List.getElem?_cons_zero, List.set_cons_succ, List.set_cons_zero, List.length_cons, List.length_nil, List.length_map, List.length_append, List.map_cons, List.map_nil, Option.map_some, Option.map_none, if_true, if_false, ite_true, ite_false, Bool.false_eq_true, Bool.true_eq_false, Bool.not_true, Bool.not_false, Bool.true_and, Bool.false_and, Bool.and_true, Bool.and_false, Bool.true_or, Bool.false_or, Bool.or_true, Bool.or_false, decide_true, decide_false, startR_eq, List.replicate_succ, List.replicate_zero, List.append_nil, Nat.reduceAdd, Nat.reduceSub, Nat.sub_self, List.cons_append, List.nil_append, Option.getD_some, Option.getD_none, Option.bind_some, reduceIte, reduceCtorEq, nD_len, List.length_reverse, t1]
      rfl), ?_⟩
    refine L_gen fun P' K hK hR => ?_
    simp only [L_nil, L_cons, S_expr, S_asg, S_asgT, S_par, S_parO, N_nil, N_tt, N_ff, setRs, S_setIx, S_ret, S_retN, S_ite, S_for, S_while, S_pass, S_scope, S_spoil, E_non, E_bl, E_int, E_str, E_var, E_op2, E_neg, E_cmp, E_isN, E_notN, E_chn, E_and, E_or, E_not, E_ite, E_lst, E_tup, E_ix, E_slc, E_rev, E_call, E_blt, E_isa, E_mth, E_lc, E_lrng, evA, evF, evS, evP, evIt, evCs, Out.z, Out.o, Out.t, bind_ok, bind_exc, bind_stuck, w_ok, w_exc, w_stuck, then_nx, then_rt, then_exc, then_stuck, Out.noX, wipeR_cons, wipeR_nil, backR_cons, backR_nil, backS_sh, backS_un, spoilS, clampS, Fl.top_hit, Fl.mk_hit, Fl.top_clamp, frz, frzs, opd, look, looks, rv, res, bin, bltD, cmpD, tru, ixD_l, ixD_t, nrm, imm, imms, Sd.ofOpt, setTs, setTg, Fl.top_top, Fl.at_eq, Fl.top_join, Fl.join_top, Fl.join_mk, Fl.top_lo, Nat.reduceLeDiff, seqOf_l, seqOf_t, asgS, backF, byName_nil, endW, List.getElem?_cons_succ, List.getElem?_cons_zero, List.set_cons_succ, List.set_cons_zero, List.length_cons, List.length_nil, List.length_map, List.length_append, List.map_cons, List.map_nil, Option.map_some, Option.map_none, if_true, if_false, ite_true, ite_false, Bool.false_eq_true, Bool.true_eq_false, Bool.not_true, Bool.not_false, Bool.true_and, Bool.false_and, Bool.and_true, Bool.and_false, Bool.true_or, Bool.false_or, Bool.or_true, Bool.or_false, decide_true, decide_false, startR_eq, List.replicate_succ, List.replicate_zero, List.append_nil, Nat.reduceAdd, Nat.reduceSub, Nat.sub_self, List.cons_append, List.nil_append, Option.getD_some, Option.getD_none, Option.bind_some, reduceIte, reduceCtorEq]
    have e : srch B M [] = some ws.reverse := by rw [← hv]; unfold val; rw [if_pos (by omega)]
    refine hR _ _ _ ?_
    rw [e]
    exact ⟨rfl, rfl, rfl⟩
end Lk76

namespace Lk76
open PySem Sd
theorem rng_down {B : Nat} (hB : B ≤ 1000) : rngD [.int ((B : Int) - 1), .int (-1), .int (-1)] = some ((List.range B).reverse.map fun (k : Nat) => D.int (k : Int)) := by
  have h : (rOk ((B : Int) - 1) && rOk (-1) && dOk (-1) ((B : Int) - 1)) = true := by
    have hz : (SZ : Int) = 16777216 := rfl
    rw [Bool.and_eq_true, Bool.and_eq_true, rOk_iff, rOk_iff, dOk_iff]; omega
  show (if (rOk ((B : Int) - 1) && rOk (-1) && dOk (-1) ((B : Int) - 1)) = true then some ((List.range (((B : Int) - 1) - (-1)).toNat).map fun (k : Nat) => D.int (((B : Int) - 1) + (k : Int) * (-1))) else none) = _
  rw [if_pos h]
  have e : (((B : Int) - 1) - (-1)).toNat = B := by omega
  rw [e]
  congr 1
  refine List.ext_getElem (by simp) fun i h1 h2 => ?_
  simp only [List.length_map, List.length_range] at h1
  simp only [List.getElem_map, List.getElem_range, List.getElem_reverse, List.length_range]
  congr 1
  omega
def lD (st : List (List Nat)) : List D := st.reverse.map fun ws => .lst (nD ws.reverse)
theorem lD_cons {ws : List Nat} {st : List (List Nat)} : lD (ws :: st) = lD st ++ [.lst (nD ws.reverse)] := by unfold lD; simp
theorem lD_len {st : List (List Nat)} : (lD st).length = st.length := by unfold lD; simp
theorem eqOks_map {α : Type} {n : Nat} {f : α → D} : ∀ {xs : List α}, (∀ x ∈ xs, eqOk n (f x) = true) → eqOks n (xs.map f) = true
  | [], _ => by simp only [List.map_nil, eqOks]
  | x :: xs, h => by simp only [List.map_cons, eqOks, h x List.mem_cons_self, eqOks_map fun y hy => h y (List.mem_cons_of_mem _ hy), Bool.and_self]
theorem eqOk_lD {st : List (List Nat)} : eqOk 60 (.lst (lD st)) = true := by
  simp only [eqOk]
  exact eqOks_map fun x _ => eqOk_nD
theorem sg_law_clash : sgOf Pr "_law_clash" = (["bottom", "points", "many"] : List Str) := rfl
def pushI : List IS := [(.for [4] true (.rng [(.op2 .sub (.var 0) (.int (1))), (.neg (.int (1))), (.neg (.int (1)))]) [(.ite (.isN (.call "_law_clash" [(.var 0), (.op2 .add (.var 3) (.lst [(.var 4)])), (.op2 .add (.blt .len [(.var 3)]) (.int (1)))] [] [])) [(.expr (.mth .append 2 [(.op2 .add (.var 3) (.lst [(.var 4)]))]))] [])])]
/-- the points are put up, the greatest first -/
theorem push_run {n B M : Nat} (hB1 : 1 ≤ B) (hB : B ≤ 30) (hM : M ≤ 8) {ws : List Nat} {st : List (List Nat)} (hl : ws.length < M) (hw : ∀ w ∈ ws, w < B) (hf : few B st) (hfl : st.length ≤ B * ws.length) (s : List Stm) (s4 : Slot) {Q : Fw → Prop} {N : C → Prop}
    (hN : ∀ s4, few B (kids B ws B ++ st) → N ⟨[.sh Fl.top (.int (B : Int)), .sh Fl.top (.int (M : Int)), .ow (Fl.at 1) (.lst (lD (kids B ws B ++ st))), .sh (Fl.at 1) (.lst (nD ws.reverse)), s4], s⟩) :
    FwS (xL (callF Pr (n + 1)) (sgOf Pr) 1 false pushI ⟨[.sh Fl.top (.int (B : Int)), .sh Fl.top (.int (M : Int)), .ow (Fl.at 1) (.lst (lD st)), .sh (Fl.at 1) (.lst (nD ws.reverse)), s4], s⟩) N Q := by
  unfold pushI
  refine L_for (f := Fl.top) (xs := (List.range B).reverse.map fun (k : Nat) => D.int (k : Int)) (c1 := ⟨[.sh Fl.top (.int (B : Int)), .sh Fl.top (.int (M : Int)), .ow (Fl.at 1) (.lst (lD st)), .sh (Fl.at 1) (.lst (nD ws.reverse)), s4], s⟩)
    (fun xs c => ∃ (i : Nat) (st' : List (List Nat)) (s4 : Slot), xs = (List.range i).reverse.map (fun (k : Nat) => D.int (k : Int)) ∧ i ≤ B ∧ c = ⟨[.sh Fl.top (.int (B : Int)), .sh Fl.top (.int (M : Int)), .ow (Fl.at 1) (.lst (lD st')), .sh (Fl.at 1) (.lst (nD ws.reverse)), s4], s⟩ ∧ kids B ws i ++ st' = kids B ws B ++ st ∧ few B st' ∧ st'.length + i ≤ st.length + B) (It_rng (f := Fl.top) (rng_down (by omega)) (by simp only [L_nil, L_cons, S_expr, S_asg, S_asgT, S_par, S_parO, N_nil, N_tt, N_ff, setRs, S_setIx, S_ret, S_retN, S_ite, S_for, S_while, S_pass, S_scope, S_spoil, E_non, E_bl, E_int, E_str, E_var, E_op2, E_neg, E_cmp, E_isN, E_notN, E_chn, E_and, E_or, E_not, E_ite, E_lst, E_tup, E_ix, E_slc, E_rev, E_call, E_blt, E_isa, E_mth, E_lc, E_lrng, evA, evF, evS, evP, evIt, evCs, Out.z, Out.o, Out.t, bind_ok, bind_exc, bind_stuck, w_ok, w_exc, w_stuck, then_nx, then_rt, then_exc, then_stuck, Out.noX, wipeR_cons, wipeR_nil, backR_cons, backR_nil, backS_sh, backS_un, spoilS, clampS, Fl.top_hit, Fl.mk_hit, Fl.top_clamp, frz, frzs, opd, look, looks, rv, res, bin, bltD, cmpD, tru, ixD_l, ixD_t, nrm, imm, imms, Sd.ofOpt, setTs, setTg, Fl.top_top, Fl.at_eq, Fl.top_join, Fl.join_top, Fl.join_mk, Fl.top_lo, Nat.reduceLeDiff, seqOf_l, seqOf_t, asgS, backF, byName_nil, endW, List.getElem?_cons_succ, List.getElem?_cons_zero, List.set_cons_succ, List.set_cons_zero, List.length_cons, List.length_nil, List.length_map, List.length_append, List.map_cons, List.map_nil, Option.map_some, Option.map_none, if_true, if_false, ite_true, ite_false, Bool.false_eq_true, Bool.true_eq_false, Bool.not_true, Bool.not_false, Bool.true_and, Bool.false_and, Bool.and_true, Bool.and_false, Bool.true_or, Bool.false_or, Bool.or_true, Bool.or_false, decide_true, decide_false, startR_eq, List.replicate_succ, List.replicate_zero, List.append_nil, Nat.reduceAdd, Nat.reduceSub, Nat.sub_self, List.cons_append, List.nil_append, Option.getD_some, Option.getD_none, Option.bind_some, reduceIte, reduceCtorEq])) ⟨B, st, s4, rfl, Nat.le_refl _, rfl, rfl, hf, Nat.le_refl _⟩ ?_ ?_
  · rintro x xs c ⟨i, st', s4, hx, hi, rfl, hk, hf', hl'⟩
    cases i with
    | zero => simp at hx
    | succ i =>
      rw [List.range_succ, List.reverse_append] at hx
      simp only [List.reverse_cons, List.reverse_nil, List.nil_append, List.singleton_append, List.map_cons, List.cons.injEq] at hx
      obtain ⟨rfl, rfl⟩ := hx
      have hpts : Pts B (i :: ws).reverse := ⟨hB1, by omega, by rw [List.length_reverse, List.length_cons]; omega, fun q hq => by
        rw [List.mem_reverse] at hq
        rcases List.mem_cons.mp hq with rfl | hq
        · omega
        · have := hw q hq; omega⟩
      have hc := c__law_clash n true B (ws.length + 1) (i :: ws).reverse hpts (by rw [List.length_reverse, List.length_cons]; omega) s
      rw [nD_snoc] at hc
      simp only [sq] at hc
      have hz : ws.length + 1 ≤ SZ := by unfold SZ; omega
      have hz1 : 1 ≤ SZ := by unfold SZ; omega
      have e1 : (ws.length : Int) + 1 = ((ws.length + 1 : Nat) : Int) := by omega
      have hst : st'.length < SZ := by
        have : B * ws.length ≤ 30 * 8 := Nat.mul_le_mul hB (by omega)
        unfold SZ; omega
      have hap : mthD .append (lD st') [.lst (nD (i :: ws).reverse)] = some (.non, lD ((i :: ws) :: st')) := by
        rw [lD_cons]; exact mth_app (by rw [lD_len]; exact hst)
      rw [nD_snoc] at hap
      have hex : B * (ws.length + 1) = B * ws.length + B := Nat.mul_succ _ _
      rw [kids_succ, List.append_assoc] at hk
      simp only [Sd.ofOpt, setTg, setTs, w_ok, if_true, if_false, Bool.false_eq_true, List.set_cons_succ, List.set_cons_zero, startR_eq, List.map_cons, List.map_nil, List.length_cons, List.length_nil, List.replicate_succ, List.replicate_zero, List.cons_append, List.nil_append, nrm, imm, Nat.reduceAdd, Nat.reduceSub]
      refine L_gen fun P' K hK hR => ?_
      cases ec : clash B (i :: ws).reverse (ws.length + 1) with
      | none =>
        rw [ec] at hc
        have ho : okR B (i :: ws) = true := by unfold okR; rw [List.length_cons, ec]; rfl
        rw [ho, if_pos rfl] at hk
        simp only [L_nil, L_cons, S_expr, S_asg, S_asgT, S_par, S_parO, N_nil, N_tt, N_ff, setRs, S_setIx, S_ret, S_retN, S_ite, S_for, S_while, S_pass, S_scope, S_spoil, E_non, E_bl, E_int, E_str, E_var, E_op2, E_neg, E_cmp, E_isN, E_notN, E_chn, E_and, E_or, E_not, E_ite, E_lst, E_tup, E_ix, E_slc, E_rev, E_call, E_blt, E_isa, E_mth, E_lc, E_lrng, evA, evF, evS, evP, evIt, evCs, Out.z, Out.o, Out.t, bind_ok, bind_exc, bind_stuck, w_ok, w_exc, w_stuck, then_nx, then_rt, then_exc, then_stuck, Out.noX, wipeR_cons, wipeR_nil, backR_cons, backR_nil, backS_sh, backS_un, spoilS, clampS, Fl.top_hit, Fl.mk_hit, Fl.top_clamp, frz, frzs, opd, look, looks, rv, res, bin, bltD, cmpD, tru, ixD_l, ixD_t, nrm, imm, imms, Sd.ofOpt, setTs, setTg, Fl.top_top, Fl.at_eq, Fl.top_join, Fl.join_top, Fl.join_mk, Fl.top_lo, Nat.reduceLeDiff, seqOf_l, seqOf_t, asgS, backF, byName_nil, endW, List.getElem?_cons_succ, List.getElem?_cons_zero, List.set_cons_succ, List.set_cons_zero, List.length_cons, List.length_nil, List.length_map, List.length_append, List.map_cons, List.map_nil, Option.map_some, Option.map_none, if_true, if_false, ite_true, ite_false, Bool.false_eq_true, Bool.true_eq_false, Bool.not_true, Bool.not_false, Bool.true_and, Bool.false_and, Bool.and_true, Bool.and_false, Bool.true_or, Bool.false_or, Bool.or_true, Bool.or_false, decide_true, decide_false, startR_eq, List.replicate_succ, List.replicate_zero, List.append_nil, Nat.reduceAdd, Nat.reduceSub, Nat.sub_self, List.cons_append, List.nil_append, Option.getD_some, Option.getD_none, Option.bind_some, reduceIte, reduceCtorEq, nD_len, List.length_reverse, e1, hz, hz1, sg_law_clash, hc, optP, hap, isOwnL]
        refine hK _ (L_end ⟨i, (i :: ws) :: st', _, rfl, by omega, rfl, hk, ⟨by rw [List.length_cons, hex]; omega, hf'⟩, by rw [List.length_cons]; omega⟩)
      | some p =>
        rw [ec] at hc
        have ho : okR B (i :: ws) = false := by unfold okR; rw [List.length_cons, ec]; rfl
        rw [ho, if_neg (by decide), List.nil_append] at hk
        obtain ⟨i, j⟩ := p
        simp only [L_nil, L_cons, S_expr, S_asg, S_asgT, S_par, S_parO, N_nil, N_tt, N_ff, setRs, S_setIx, S_ret, S_retN, S_ite, S_for, S_while, S_pass, S_scope, S_spoil, E_non, E_bl, E_int, E_str, E_var, E_op2, E_neg, E_cmp, E_isN, E_notN, E_chn, E_and, E_or, E_not, E_ite, E_lst, E_tup, E_ix, E_slc, E_rev, E_call, E_blt, E_isa, E_mth, E_lc, E_lrng, evA, evF, evS, evP, evIt, evCs, Out.z, Out.o, Out.t, bind_ok, bind_exc, bind_stuck, w_ok, w_exc, w_stuck, then_nx, then_rt, then_exc, then_stuck, Out.noX, wipeR_cons, wipeR_nil, backR_cons, backR_nil, backS_sh, backS_un, spoilS, clampS, Fl.top_hit, Fl.mk_hit, Fl.top_clamp, frz, frzs, opd, look, looks, rv, res, bin, bltD, cmpD, tru, ixD_l, ixD_t, nrm, imm, imms, Sd.ofOpt, setTs, setTg, Fl.top_top, Fl.at_eq, Fl.top_join, Fl.join_top, Fl.join_mk, Fl.top_lo, Nat.reduceLeDiff, seqOf_l, seqOf_t, asgS, backF, byName_nil, endW, List.getElem?_cons_succ, List.getElem?_cons_zero, List.set_cons_succ, List.set_cons_zero, List.length_cons, List.length_nil, List.length_map, List.length_append, List.map_cons, List.map_nil, Option.map_some, Option.map_none, if_true, if_false, ite_true, ite_false, Bool.false_eq_true, Bool.true_eq_false, Bool.not_true, Bool.not_false, Bool.true_and, Bool.false_and, Bool.and_true, Bool.and_false, Bool.true_or, Bool.false_or, Bool.or_true, Bool.or_false, decide_true, decide_false, startR_eq, List.replicate_succ, List.replicate_zero, List.append_nil, Nat.reduceAdd, Nat.reduceSub, Nat.sub_self, List.cons_append, List.nil_append, Option.getD_some, Option.getD_none, Option.bind_some, reduceIte, reduceCtorEq, nD_len, List.length_reverse, e1, hz, hz1, sg_law_clash, hc, optP, hap, isOwnL]
        exact hK _ (L_end ⟨_, st', _, rfl, by omega, rfl, hk, hf', by omega⟩)
  · rintro c ⟨i, st', s4, hx, hi, rfl, hk, hf', hl'⟩
    cases i with
    | succ i => rw [List.range_succ] at hx; simp at hx
    | zero =>
      have hk : st' = kids B ws B ++ st := by rw [← hk]; rfl
      subst hk
      exact L_end (hN s4 hf')
theorem few_tail {B : Nat} {ws : List Nat} {st : List (List Nat)} (h : few B (ws :: st)) : st.length ≤ B * ws.length ∧ few B st := h
theorem kids_mem {B i : Nat} {ws w : List Nat} (h : w ∈ kids B ws i) : ∃ p, p < i ∧ w = p :: ws := by
  unfold kids at h
  obtain ⟨p, hp, rfl⟩ := List.mem_map.mp h
  exact ⟨p, List.mem_range.mp (List.mem_filter.mp hp).1, rfl⟩
theorem c__law_line (n : Nat) (B M : Nat) (hB1 : 1 ≤ B) (hB : B ≤ 30) (hM1 : 1 ≤ M) (hM : M ≤ 8) (s : List Stm) : callF Pr (n + 2) "_law_line" [.int (B : Int), .int (M : Int)] s = some (.inl (optFl (srch B M []), optL (srch B M []), s)) := by
  have q0 : eqOk 60 (.lst []) = true := rfl
  have hz1 : 1 ≤ SZ := by unfold SZ; omega
  refine callF_rt l__law_line rfl ?_
  simp only [Sd.ofOpt, setTg, setTs, w_ok, if_true, if_false, Bool.false_eq_true, List.set_cons_succ, List.set_cons_zero, startR_eq, List.map_cons, List.map_nil, List.length_cons, List.length_nil, List.replicate_succ, List.replicate_zero, List.cons_append, List.nil_append, nrm, imm, Nat.reduceAdd, Nat.reduceSub, i__law_line]
  refine L_gen fun P' K hK hR => ?_
  simp only [L_nil, L_cons, S_expr, S_asg, S_asgT, S_par, S_parO, N_nil, N_tt, N_ff, setRs, S_setIx, S_ret, S_retN, S_ite, S_for, S_while, S_pass, S_scope, S_spoil, E_non, E_bl, E_int, E_str, E_var, E_op2, E_neg, E_cmp, E_isN, E_notN, E_chn, E_and, E_or, E_not, E_ite, E_lst, E_tup, E_ix, E_slc, E_rev, E_call, E_blt, E_isa, E_mth, E_lc, E_lrng, evA, evF, evS, evP, evIt, evCs, Out.z, Out.o, Out.t, bind_ok, bind_exc, bind_stuck, w_ok, w_exc, w_stuck, then_nx, then_rt, then_exc, then_stuck, Out.noX, wipeR_cons, wipeR_nil, backR_cons, backR_nil, backS_sh, backS_un, spoilS, clampS, Fl.top_hit, Fl.mk_hit, Fl.top_clamp, frz, frzs, opd, look, looks, rv, res, bin, bltD, cmpD, tru, ixD_l, ixD_t, nrm, imm, imms, Sd.ofOpt, setTs, setTg, Fl.top_top, Fl.at_eq, Fl.top_join, Fl.join_top, Fl.join_mk, Fl.top_lo, Nat.reduceLeDiff, seqOf_l, seqOf_t, asgS, backF, byName_nil, endW, List.getElem?_cons_succ, List.getElem?_cons_zero, List.set_cons_succ, List.set_cons_zero, List.length_cons, List.length_nil, List.length_map, List.length_append, List.map_cons, List.map_nil, Option.map_some, Option.map_none, if_true, if_false, ite_true, ite_false, Bool.false_eq_true, Bool.true_eq_false, Bool.not_true, Bool.not_false, Bool.true_and, Bool.false_and, Bool.and_true, Bool.and_false, Bool.true_or, Bool.false_or, Bool.or_true, Bool.or_false, decide_true, decide_false, startR_eq, List.replicate_succ, List.replicate_zero, List.append_nil, Nat.reduceAdd, Nat.reduceSub, Nat.sub_self, List.cons_append, List.nil_append, Option.getD_some, Option.getD_none, Option.bind_some, reduceIte, reduceCtorEq, hz1, Nat.zero_le]
  refine hK _ (L_while (fun m c => ∃ (st : List (List Nat)) (s3 s4 : Slot), c = ⟨[.sh Fl.top (.int (B : Int)), .sh Fl.top (.int (M : Int)), .ow (Fl.at 1) (.lst (lD st)), s3, s4], s⟩ ∧ m = lmeas B M st ∧ (∀ ws ∈ st, ws.length ≤ M ∧ ∀ w ∈ ws, w < B) ∧ few B st ∧ lval B M st = srch B M []) (lmeas_top hB hM) ⟨[[]], _, _, rfl, rfl, ?_, ⟨by simp, trivial⟩, ?_⟩ ?_)
  · intro ws h
    rw [List.mem_singleton] at h
    subst h
    exact ⟨by simp, by simp⟩
  · unfold lval
    rw [List.findSome?_cons, List.length_nil, Nat.sub_zero]
    cases srch B M [] <;> rfl
  rintro m c ⟨st, s3, s4, rfl, rfl, hall, hf, hv⟩
  cases st with
  | nil =>
    right
    have e : srch B M [] = none := by rw [← hv]; rfl
    refine ⟨_, (by
      simp only [L_nil, L_cons, S_expr, S_asg, S_asgT, S_par, S_parO, N_nil, N_tt, N_ff, setRs, S_setIx, S_ret, S_retN, S_ite, S_for, S_while, S_pass, S_scope, S_spoil, E_non, E_bl, E_int, E_str, E_var, E_op2, E_neg, E_cmp, E_isN, E_notN, E_chn, E_and, E_or, E_not, E_ite, E_lst, E_tup, E_ix, E_slc, E_rev, E_call, E_blt, E_isa, E_mth, E_lc, E_lrng, evA, evF, evS, evP, evIt, evCs, Out.z, Out.o, Out.t, bind_ok, bind_exc, bind_stuck, w_ok, w_exc, w_stuck, then_nx, then_rt, then_exc, then_stuck, Out.noX, wipeR_cons, wipeR_nil, backR_cons, backR_nil, backS_sh, backS_un, spoilS, clampS, Fl.top_hit, Fl.mk_hit, Fl.top_clamp, frz, frzs, opd, look, looks, rv, res, bin, bltD, cmpD, tru, ixD_l, ixD_t, nrm, imm, imms, Sd.ofOpt, setTs, setTg, Fl.top_top, Fl.at_eq, Fl.top_join, Fl.join_top, Fl.join_mk, Fl.top_lo, Nat.reduceLeDiff, seqOf_l, seqOf_t, asgS, backF, byName_nil, endW, List.getElem?_cons_succ, List.getElem?_cons_zero, List.set_cons_succ, List.set_cons_zero, List.length_cons, List.length_nil, List.length_map, List.length_append, List.map_cons, List.map_nil, Option.map_some, Option.map_none, if_true, if_false, ite_true, ite_false, Bool.false_eq_true, Bool.true_eq_false, Bool.not_true, Bool.not_false, Bool.true_and, Bool.false_and, Bool.and_true, Bool.and_false, Bool.true_or, Bool.false_or, Bool.or_true, Bool.or_false, decide_true, decide_false, startR_eq, List.replicate_succ, List.replicate_zero, List.append_nil, Nat.reduceAdd, Nat.reduceSub, Nat.sub_self, List.cons_append, List.nil_append, Option.getD_some, Option.getD_none, Option.bind_some, reduceIte, reduceCtorEq, eqOk_lD, q0, eqD_nil, Nat.zero_le]
      rw [show (lD []).isEmpty = true from rfl]
      simp only [L_nil, L_cons, S_expr, S_asg, S_asgT, S_par, S_parO, N_nil, N_tt, N_ff, setRs, S_setIx, S_ret, S_retN, S_ite, S_for, S_while, S_pass, S_scope, S_spoil, E_non, E_bl, E_int, E_str, E_var, E_op2, E_neg, E_cmp, E_isN, E_notN, E_chn, E_and, E_or, E_not, E_ite, E_lst, E_tup, E_ix, E_slc, E_rev, E_call, E_blt, E_isa, E_mth, E_lc, E_lrng, evA, evF, evS, evP, evIt, evCs, Out.z, Out.o, Out.t, bind_ok, bind_exc, bind_stuck, w_ok, w_exc, w_stuck, then_nx, then_rt, then_exc, then_stuck, Out.noX, wipeR_cons, wipeR_nil, backR_cons, backR_nil, backS_sh, backS_un, spoilS, clampS, Fl.top_hit, Fl.mk_hit, Fl.top_clamp, frz, frzs, opd, look, looks, rv, res, bin, bltD, cmpD, tru, ixD_l, ixD_t, nrm, imm, imms, Sd.ofOpt, setTs, setTg, Fl.top_top, Fl.at_eq, Fl.top_join, Fl.join_top, Fl.join_mk, Fl.top_lo, Nat.reduceLeDiff, seqOf_l, seqOf_t, asgS, backF, byName_nil, endW, List.getElem?_cons_succ, List.getElem?_cons_zero, List.set_cons_succ, List.set_cons_zero, List.length_cons, List.length_nil, List.length_map, List.length_append, List.map_cons, List.map_nil, Option.map_some, Option.map_none, if_true, if_false, ite_true, ite_false, Bool.false_eq_true, Bool.true_eq_false, Bool.not_true, Bool.not_false, Bool.true_and, Bool.false_and, Bool.and_true, Bool.and_false, Bool.true_or, Bool.false_or, Bool.or_true, Bool.or_false, decide_true, decide_false, startR_eq, List.replicate_succ, List.replicate_zero, List.append_nil, Nat.reduceAdd, Nat.reduceSub, Nat.sub_self, List.cons_append, List.nil_append, Option.getD_some, Option.getD_none, Option.bind_some, reduceIte, reduceCtorEq]
      rfl), ?_⟩
    refine L_gen fun P' K hK hR => ?_
    simp only [L_nil, L_cons, S_expr, S_asg, S_asgT, S_par, S_parO, N_nil, N_tt, N_ff, setRs, S_setIx, S_ret, S_retN, S_ite, S_for, S_while, S_pass, S_scope, S_spoil, E_non, E_bl, E_int, E_str, E_var, E_op2, E_neg, E_cmp, E_isN, E_notN, E_chn, E_and, E_or, E_not, E_ite, E_lst, E_tup, E_ix, E_slc, E_rev, E_call, E_blt, E_isa, E_mth, E_lc, E_lrng, evA, evF, evS, evP, evIt, evCs, Out.z, Out.o, Out.t, bind_ok, bind_exc, bind_stuck, w_ok, w_exc, w_stuck, then_nx, then_rt, then_exc, then_stuck, Out.noX, wipeR_cons, wipeR_nil, backR_cons, backR_nil, backS_sh, backS_un, spoilS, clampS, Fl.top_hit, Fl.mk_hit, Fl.top_clamp, frz, frzs, opd, look, looks, rv, res, bin, bltD, cmpD, tru, ixD_l, ixD_t, nrm, imm, imms, Sd.ofOpt, setTs, setTg, Fl.top_top, Fl.at_eq, Fl.top_join, Fl.join_top, Fl.join_mk, Fl.top_lo, Nat.reduceLeDiff, seqOf_l, seqOf_t, asgS, backF, byName_nil, endW, List.getElem?_cons_succ, List.getElem?_cons_zero, List.set_cons_succ, List.set_cons_zero, List.length_cons, List.length_nil, List.length_map, List.length_append, List.map_cons, List.map_nil, Option.map_some, Option.map_none, if_true, if_false, ite_true, ite_false, Bool.false_eq_true, Bool.true_eq_false, Bool.not_true, Bool.not_false, Bool.true_and, Bool.false_and, Bool.and_true, Bool.and_false, Bool.true_or, Bool.false_or, Bool.or_true, Bool.or_false, decide_true, decide_false, startR_eq, List.replicate_succ, List.replicate_zero, List.append_nil, Nat.reduceAdd, Nat.reduceSub, Nat.sub_self, List.cons_append, List.nil_append, Option.getD_some, Option.getD_none, Option.bind_some, reduceIte, reduceCtorEq]
    refine hR _ _ _ ?_
    rw [e]
    exact ⟨rfl, rfl, rfl⟩
  | cons ws st =>
    left
    have p1 : (lD (ws :: st)).isEmpty = false := by rw [lD_cons]; simp
    have p2 : mthD .pop (lD (ws :: st)) [] = some (.lst (nD ws.reverse), lD st) := by rw [lD_cons]; exact mth_pop
    obtain ⟨hfl, hf⟩ := few_tail hf
    obtain ⟨hl, hw⟩ := hall ws List.mem_cons_self
    refine ⟨⟨[.sh Fl.top (.int (B : Int)), .sh Fl.top (.int (M : Int)), .ow (Fl.at 1) (.lst (lD (ws :: st))), s3, s4], s⟩, (by simp only [L_nil, L_cons, S_expr, S_asg, S_asgT, S_par, S_parO, N_nil, N_tt, N_ff, setRs, S_setIx, S_ret, S_retN, S_ite, S_for, S_while, S_pass, S_scope, S_spoil, E_non, E_bl, E_int, E_str, E_var, E_op2, E_neg, E_cmp, E_isN, E_notN, E_chn, E_and, E_or, E_not, E_ite, E_lst, E_tup, E_ix, E_slc, E_rev, E_call, E_blt, E_isa, E_mth, E_lc, E_lrng, evA, evF, evS, evP, evIt, evCs, Out.z, Out.o, Out.t, bind_ok, bind_exc, bind_stuck, w_ok, w_exc, w_stuck, then_nx, then_rt, then_exc, then_stuck, Out.noX, wipeR_cons, wipeR_nil, backR_cons, backR_nil, backS_sh, backS_un, spoilS, clampS, Fl.top_hit, Fl.mk_hit, Fl.top_clamp, frz, frzs, opd, look, looks, rv, res, bin, bltD, cmpD, tru, ixD_l, ixD_t, nrm, imm, imms, Sd.ofOpt, setTs, setTg, Fl.top_top, Fl.at_eq, Fl.top_join, Fl.join_top, Fl.join_mk, Fl.top_lo, Nat.reduceLeDiff, seqOf_l, seqOf_t, asgS, backF, byName_nil, endW, List.getElem?_cons_succ, List.getElem?_cons_zero, List.set_cons_succ, List.set_cons_zero, List.length_cons, List.length_nil, List.length_map, List.length_append, List.map_cons, List.map_nil, Option.map_some, Option.map_none, if_true, if_false, ite_true, ite_false, Bool.false_eq_true, Bool.true_eq_false, Bool.not_true, Bool.not_false, Bool.true_and, Bool.false_and, Bool.and_true, Bool.and_false, Bool.true_or, Bool.false_or, Bool.or_true, Bool.or_false, decide_true, decide_false, startR_eq, List.replicate_succ, List.replicate_zero, List.append_nil, Nat.reduceAdd, Nat.reduceSub, Nat.sub_self, List.cons_append, List.nil_append, Option.getD_some, Option.getD_none, Option.bind_some, reduceIte, reduceCtorEq, eqOk_lD, q0, eqD_nil, p1, Nat.zero_le]), ?_⟩
    refine L_gen fun P' K hK hR => ?_
    simp only [L_nil, L_cons, S_expr, S_asg, S_asgT, S_par, S_parO, N_nil, N_tt, N_ff, setRs, S_setIx, S_ret, S_retN, S_ite, S_for, S_while, S_pass, S_scope, S_spoil, E_non, E_bl, E_int, E_str, E_var, E_op2, E_neg, E_cmp, E_isN, E_notN, E_chn, E_and, E_or, E_not, E_ite, E_lst, E_tup, E_ix, E_slc, E_rev, E_call, E_blt, E_isa, E_mth, E_lc, E_lrng, evA, evF, evS, evP, evIt, evCs, Out.z, Out.o, Out.t, bind_ok, bind_exc, bind_stuck, w_ok, w_exc, w_stuck, then_nx, then_rt, then_exc, then_stuck, Out.noX, wipeR_cons, wipeR_nil, backR_cons, backR_nil, backS_sh, backS_un, spoilS, clampS, Fl.top_hit, Fl.mk_hit, Fl.top_clamp, frz, frzs, opd, look, looks, rv, res, bin, bltD, cmpD, tru, ixD_l, ixD_t, nrm, imm, imms, Sd.ofOpt, setTs, setTg, Fl.top_top, Fl.at_eq, Fl.top_join, Fl.join_top, Fl.join_mk, Fl.top_lo, Nat.reduceLeDiff, seqOf_l, seqOf_t, asgS, backF, byName_nil, endW, List.getElem?_cons_succ, List.getElem?_cons_zero, List.set_cons_succ, List.set_cons_zero, List.length_cons, List.length_nil, List.length_map, List.length_append, List.map_cons, List.map_nil, Option.map_some, Option.map_none, if_true, if_false, ite_true, ite_false, Bool.false_eq_true, Bool.true_eq_false, Bool.not_true, Bool.not_false, Bool.true_and, Bool.false_and, Bool.and_true, Bool.and_false, Bool.true_or, Bool.false_or, Bool.or_true, Bool.or_false, decide_true, decide_false, startR_eq, List.replicate_succ, List.replicate_zero, List.append_nil, Nat.reduceAdd, Nat.reduceSub, Nat.sub_self, List.cons_append, List.nil_append, Option.getD_some, Option.getD_none, Option.bind_some, reduceIte, reduceCtorEq, p2, isOwnL]
    refine hK _ (L_gen fun P' K hK hR => ?_)
    by_cases he : ws.length = M
    · have d1 : decide (ws.length = M) = true := decide_eq_true he
      simp only [L_nil, L_cons, S_expr, S_asg, S_asgT, S_par, S_parO, N_nil, N_tt, N_ff, setRs, S_setIx, S_ret, S_retN, S_ite, S_for, S_while, S_pass, S_scope, S_spoil, E_non, E_bl, E_int, E_str, E_var, E_op2, E_neg, E_cmp, E_isN, E_notN, E_chn, E_and, E_or, E_not, E_ite, E_lst, E_tup, E_ix, E_slc, E_rev, E_call, E_blt, E_isa, E_mth, E_lc, E_lrng, evA, evF, evS, evP, evIt, evCs, Out.z, Out.o, Out.t, bind_ok, bind_exc, bind_stuck, w_ok, w_exc, w_stuck, then_nx, then_rt, then_exc, then_stuck, Out.noX, wipeR_cons, wipeR_nil, backR_cons, backR_nil, backS_sh, backS_un, spoilS, clampS, Fl.top_hit, Fl.mk_hit, Fl.top_clamp, frz, frzs, opd, look, looks, rv, res, bin, bltD, cmpD, tru, ixD_l, ixD_t, nrm, imm, imms, Sd.ofOpt, setTs, setTg, Fl.top_top, Fl.at_eq, Fl.top_join, Fl.join_top, Fl.join_mk, Fl.top_lo, Nat.reduceLeDiff, seqOf_l, seqOf_t, asgS, backF, byName_nil, endW, List.getElem?_cons_succ, List.getElem?_cons_zero, List.set_cons_succ, List.set_cons_zero, List.length_cons, List.length_nil, List.length_map, List.length_append, List.map_cons, List.map_nil, Option.map_some, Option.map_none, if_true, if_false, ite_true, ite_false, Bool.false_eq_true, Bool.true_eq_false, Bool.not_true, Bool.not_false, Bool.true_and, Bool.false_and, Bool.and_true, Bool.and_false, Bool.true_or, Bool.false_or, Bool.or_true, Bool.or_false, decide_true, decide_false, startR_eq, List.replicate_succ, List.replicate_zero, List.append_nil, Nat.reduceAdd, Nat.reduceSub, Nat.sub_self, List.cons_append, List.nil_append, Option.getD_some, Option.getD_none, Option.bind_some, reduceIte, reduceCtorEq, nD_len, List.length_reverse, eqOk_i, eqD_i, beqN, d1]
      have e : srch B M [] = some ws.reverse := by rw [← hv]; exact lval_full he
      refine hR _ _ _ ?_
      rw [e]
      exact ⟨rfl, rfl, rfl⟩
    · have d1 : decide (ws.length = M) = false := decide_eq_false he
      have hl2 : ws.length < M := by omega
      simp only [L_nil, L_cons, S_expr, S_asg, S_asgT, S_par, S_parO, N_nil, N_tt, N_ff, setRs, S_setIx, S_ret, S_retN, S_ite, S_for, S_while, S_pass, S_scope, S_spoil, E_non, E_bl, E_int, E_str, E_var, E_op2, E_neg, E_cmp, E_isN, E_notN, E_chn, E_and, E_or, E_not, E_ite, E_lst, E_tup, E_ix, E_slc, E_rev, E_call, E_blt, E_isa, E_mth, E_lc, E_lrng, evA, evF, evS, evP, evIt, evCs, Out.z, Out.o, Out.t, bind_ok, bind_exc, bind_stuck, w_ok, w_exc, w_stuck, then_nx, then_rt, then_exc, then_stuck, Out.noX, wipeR_cons, wipeR_nil, backR_cons, backR_nil, backS_sh, backS_un, spoilS, clampS, Fl.top_hit, Fl.mk_hit, Fl.top_clamp, frz, frzs, opd, look, looks, rv, res, bin, bltD, cmpD, tru, ixD_l, ixD_t, nrm, imm, imms, Sd.ofOpt, setTs, setTg, Fl.top_top, Fl.at_eq, Fl.top_join, Fl.join_top, Fl.join_mk, Fl.top_lo, Nat.reduceLeDiff, seqOf_l, seqOf_t, asgS, backF, byName_nil, endW, List.getElem?_cons_succ, List.getElem?_cons_zero, List.set_cons_succ, List.set_cons_zero, List.length_cons, List.length_nil, List.length_map, List.length_append, List.map_cons, List.map_nil, Option.map_some, Option.map_none, if_true, if_false, ite_true, ite_false, Bool.false_eq_true, Bool.true_eq_false, Bool.not_true, Bool.not_false, Bool.true_and, Bool.false_and, Bool.and_true, Bool.and_false, Bool.true_or, Bool.false_or, Bool.or_true, Bool.or_false, decide_true, decide_false, startR_eq, List.replicate_succ, List.replicate_zero, List.append_nil, Nat.reduceAdd, Nat.reduceSub, Nat.sub_self, List.cons_append, List.nil_append, Option.getD_some, Option.getD_none, Option.bind_some, reduceIte, reduceCtorEq, nD_len, List.length_reverse, eqOk_i, eqD_i, beqN, d1]
      refine hK _ (push_run hB1 hB hM hl2 hw hf hfl s s4 fun s4 hfew => ⟨_, lmeas_step hl2, kids B ws B ++ st, _, s4, rfl, rfl, fun x hx => ?_, hfew, by rw [← lval_step hl2]; exact hv⟩)
      rcases List.mem_append.mp hx with hx | hx
      · obtain ⟨p, hp, rfl⟩ := kids_mem hx
        refine ⟨by rw [List.length_cons]; omega, fun w hm => ?_⟩
        rcases List.mem_cons.mp hm with rfl | hm
        · exact hp
        · exact hw w hm
      · exact hall x (List.mem_cons_of_mem _ hx)
end Lk76

namespace Lk76
open PySem Sd
/-- a comprehension that draws once for each item -/
theorem lcD_dr {cl : Caller} {sg : Sig} {lv : Nat} {e : IE} {ts : List Nat} {one : Bool} {f : Fl} {r r1 : List Slot} (p : D → Prop) {k : Nat} (ys : List D) (hl : ys.length ≤ SZ) (hw : wipeR r ts = r1)
    (h : ∀ y ∈ ys, ∀ k t, StmOk (k + 1) t → ∃ d t', TuOk ts r1 [t'] d (lcT cl sg lv e ts one [] (f, y) ⟨r1, [t]⟩) ∧ p d ∧ StmOk k t') {t : Stm} (ht : StmOk (ys.length + k) t) :
    ∃ ds t', lcD cl sg lv e ts one [] f ys ⟨r, [t]⟩ = .ok (.new Fl.top (.lst ds)) ⟨backR r r1 ts, [t']⟩ ∧ ds.length = ys.length ∧ (∀ d ∈ ds, p d) ∧ StmOk k t' := by
  have go : ∀ (zs : List D), (∀ y ∈ zs, y ∈ ys) → ∀ r0 t, wipeR r0 ts = r1 → StmOk (zs.length + k) t → ∃ r' ds t', lcGo ts (lcT cl sg lv e ts one []) f zs ⟨r0, [t]⟩ = .ok (Fl.top, ds) ⟨r', [t']⟩ ∧ wipeR r' ts = r1 ∧ ds.length = zs.length ∧ (∀ d ∈ ds, p d) ∧ StmOk k t' := fun zs => by
    induction zs with
    | nil => exact fun _ r0 t h0 ht => ⟨r0, [], t, rfl, h0, rfl, by simp, by simpa using ht⟩
    | cons z zs ih =>
      intro hz r0 t h0 ht
      obtain ⟨d, t1, hh, hp, ht1⟩ := h z (hz z List.mem_cons_self) (zs.length + k) t (by rw [List.length_cons] at ht; rw [show zs.length + k + 1 = zs.length + 1 + k by omega]; exact ht)
      cases eo : lcT cl sg lv e ts one [] (f, z) ⟨r1, [t]⟩ with
      | exc _ _ => rw [eo] at hh; exact hh.elim
      | stuck => rw [eo] at hh; exact hh.elim
      | ok a c =>
        rw [eo] at hh
        cases a with
        | none => exact hh.elim
        | some hd =>
          obtain ⟨h2, d2⟩ := hd
          obtain ⟨r2, s2⟩ := c
          obtain ⟨e1, e3, e4, e2⟩ := hh
          dsimp only at e1 e2 e3 e4
          subst e1; subst e4
          obtain ⟨r3, ds, t3, e4, e5, e6, e7, e8⟩ := ih (fun y hy => hz y (List.mem_cons_of_mem _ hy)) r2 t1 e2 ht1
          refine ⟨r3, d2 :: ds, t3, ?_, e5, by rw [List.length_cons, List.length_cons, e6], fun x hx => ?_, e8⟩
          · simp only [lcGo, h0, eo, Out.bind]
            rw [e4]
            simp only [e3]
            rfl
          · rcases List.mem_cons.mp hx with rfl | hx
            · exact hp
            · exact e7 x hx
  obtain ⟨r', ds, t', e1, e2, e3, e4, e5⟩ := go ys (fun _ h => h) r t hw ht
  refine ⟨ds, t', ?_, e3, e4, e5⟩
  unfold lcD
  rw [if_pos hl, e1]
  simp only [Out.noX, Out.bind, e2]
theorem dr {k : Nat} {t : Stm} {many : Int} (ht : StmOk (k + 1) t) (h1 : 0 < many) (h2 : many < 1000000000) : ∃ i t', callF Pr 30 "_law_draw" [.stm 0, .int many] [t] = some (.inl (Fl.top, .int i, [t'])) ∧ 0 ≤ i ∧ i < many ∧ StmOk k t' := call_draw (n := 29) l__law_draw ht h1 h2
theorem pk {k : Nat} {t : Stm} {xs : List Int} (ht : StmOk (k + 1) t) (h1 : xs ≠ []) (h2 : xs.length < 1000000) : ∃ x t', callF Pr 30 "_law_pick" [.stm 0, .lst (xs.map .int)] [t] = some (.inl (Fl.top, .int x, [t'])) ∧ x ∈ xs ∧ StmOk k t' :=
  call_pick (n := 28) rfl l__law_draw s__law_draw l__law_pick ht h1 h2
theorem same {d : D} {s : List Stm} (h : smOk 10 d = true) : callF Pr 30 "_law_same" [d, d] s = some (.inl (Fl.top, .bl true, s)) :=
  same_refl (n := 19) rfl l__law_same s__law_same 10 d s h
theorem stm_le {k j : Nat} {t : Stm} (h : StmOk k t) (hj : j ≤ k) : StmOk j t := ⟨h.a, by have := h.b; omega, h.c, h.d⟩
theorem nD_of {B : Nat} : ∀ {ds : List D}, (∀ d ∈ ds, ∃ p : Nat, p < B ∧ d = .int (p : Int)) → ∃ ps : List Nat, ds = nD ps ∧ ∀ p ∈ ps, p < B
  | [], _ => ⟨[], rfl, by simp⟩
  | d :: ds, h => by
    obtain ⟨p, hp, rfl⟩ := h d List.mem_cons_self
    obtain ⟨ps, rfl, hps⟩ := nD_of fun x hx => h x (List.mem_cons_of_mem _ hx)
    exact ⟨p :: ps, rfl, fun x hx => by
      rcases List.mem_cons.mp hx with rfl | hx
      · exact hp
      · exact hps x hx⟩
def dI : List IS := [(.asg 8 true (.lc (.call "_law_draw" [(.var 2), (.var 3)] [] []) [9] true (.rng [(.op2 .add (.int (1)) (.call "_law_draw" [(.var 2), (.int (8))] [] []))]) [])), (.ite (.and (.notN (.var 5)) (.cmp .lt (.var 7) (.int (3)))) [(.asg 8 true (.blt .list [(.var 5)])), (.setIx 8 (.call "_law_draw" [(.var 2), (.var 4)] [] []) (.call "_law_draw" [(.var 2), (.var 3)] [] []))] [])]
theorem drawn {k : Nat} {t : Stm} (ht : StmOk (k + 11) t) {B M : Nat} (hB1 : 1 ≤ B) (hB : B ≤ 30) (hM1 : 1 ≤ M) (hM : M ≤ 8) {R : Option (List Nat)} (hR : ∀ r, R = some r → r.length = M ∧ ∀ p ∈ r, p < B) (s0 s1 s6 s8 s9 s10 s11 s12 s13 : Slot) (j : Int) {is : List IS} {N : C → Prop} {Q : Fw → Prop}
    (hN : ∀ f8 ps s9 t', ps ≠ [] → ps.length ≤ 8 → (∀ p ∈ ps, p < B) → StmOk k t' → FwS (xL (callF Pr 30) (sgOf Pr) 2 false is ⟨[s0, s1, .sh Fl.top (.stm 0), .sh Fl.top (.int (B : Int)), .sh Fl.top (.int (M : Int)), .sh (optFl R) (optL R), s6, .sh Fl.top (.int j), .ow f8 (.lst (nD ps)), s9, s10, s11, s12, s13], [t']⟩) N Q) :
    FwS (xL (callF Pr 30) (sgOf Pr) 2 false (dI ++ is) ⟨[s0, s1, .sh Fl.top (.stm 0), .sh Fl.top (.int (B : Int)), .sh Fl.top (.int (M : Int)), .sh (optFl R) (optL R), s6, .sh Fl.top (.int j), s8, s9, s10, s11, s12, s13], [t]⟩) N Q := by
  unfold dI
  rw [List.cons_append, List.cons_append, List.nil_append]
  obtain ⟨i1, t1, e1, p1, q1, h1⟩ := dr (many := 8) ht (by decide) (by decide)
  obtain ⟨n1, rfl⟩ : ∃ n : Nat, i1 = (n : Int) := ⟨i1.toNat, by omega⟩
  have ez : (1 : Int) + (n1 : Int) = ((n1 + 1 : Nat) : Int) := by omega
  have hn1 : n1 + 1 ≤ SZ := by unfold SZ; omega
  have hq1 : n1 < 8 := by omega
  obtain ⟨ds, t2, e2, hl2, hp2, h2⟩ := lcD_dr (cl := callF Pr 30) (sg := sgOf Pr) (lv := 2) (e := .call "_law_draw" [(.var 2), (.var 3)] [] []) (ts := [9]) (one := true) (f := Fl.top) (r := [s0, s1, .sh Fl.top (.stm 0), .sh Fl.top (.int (B : Int)), .sh Fl.top (.int (M : Int)), .sh (optFl R) (optL R), s6, .sh Fl.top (.int j), s8, s9, s10, s11, s12, s13]) (r1 := [s0, s1, .sh Fl.top (.stm 0), .sh Fl.top (.int (B : Int)), .sh Fl.top (.int (M : Int)), .sh (optFl R) (optL R), s6, .sh Fl.top (.int j), s8, .un, s10, s11, s12, s13])
    (fun d => ∃ p : Nat, p < B ∧ d = .int (p : Int)) (k := k + 2) ((List.range (n1 + 1)).map fun (k : Nat) => D.int (k : Int)) (by rw [List.length_map, List.length_range]; exact hn1) rfl (fun y hy k t ht => by
      obtain ⟨z, _, rfl⟩ := List.mem_map.mp hy
      obtain ⟨i, t', e, p1, q1, h1⟩ := dr (many := (B : Int)) ht (by omega) (by omega)
      obtain ⟨n, rfl⟩ : ∃ n : Nat, i = (n : Int) := ⟨i.toNat, by omega⟩
      refine ⟨.int (n : Int), t', ?_, ⟨n, by omega, rfl⟩, h1⟩
      simp only [lcT]
      simp only [L_nil, L_cons, S_expr, S_asg, S_asgT, S_par, S_parO, N_nil, N_tt, N_ff, setRs, S_setIx, S_ret, S_retN, S_ite, S_for, S_while, S_pass, S_scope, S_spoil, E_non, E_bl, E_int, E_str, E_var, E_op2, E_neg, E_cmp, E_isN, E_notN, E_chn, E_and, E_or, E_not, E_ite, E_lst, E_tup, E_ix, E_slc, E_rev, E_call, E_blt, E_isa, E_mth, E_lc, E_lrng, evA, evF, evS, evP, evIt, evCs, Out.z, Out.o, Out.t, bind_ok, bind_exc, bind_stuck, w_ok, w_exc, w_stuck, then_nx, then_rt, then_exc, then_stuck, Out.noX, wipeR_cons, wipeR_nil, backR_cons, backR_nil, backS_sh, backS_un, spoilS, clampS, Fl.top_hit, Fl.mk_hit, Fl.top_clamp, frz, frzs, opd, look, looks, rv, res, bin, bltD, cmpD, tru, ixD_l, ixD_t, nrm, imm, imms, Sd.ofOpt, setTs, setTg, Fl.top_top, Fl.at_eq, Fl.top_join, Fl.join_top, Fl.join_mk, Fl.top_lo, Nat.reduceLeDiff, seqOf_l, seqOf_t, asgS, backF, byName_nil, endW, List.getElem?_cons_succ, List.getElem?_cons_zero, List.set_cons_succ, List.set_cons_zero, List.length_cons, List.length_nil, List.length_map, List.length_append, List.map_cons, List.map_nil, Option.map_some, Option.map_none, if_true, if_false, ite_true, ite_false, Bool.false_eq_true, Bool.true_eq_false, Bool.not_true, Bool.not_false, Bool.true_and, Bool.false_and, Bool.and_true, Bool.and_false, Bool.true_or, Bool.false_or, Bool.or_true, Bool.or_false, decide_true, decide_false, startR_eq, List.replicate_succ, List.replicate_zero, List.append_nil, Nat.reduceAdd, Nat.reduceSub, Nat.sub_self, List.cons_append, List.nil_append, Option.getD_some, Option.getD_none, Option.bind_some, reduceIte, reduceCtorEq, s__law_draw, e, TuOk]
      (repeat' (first | trivial | rfl | apply And.intro))) (t := t1) (by rw [List.length_map, List.length_range]; exact stm_le h1 (by omega))
  obtain ⟨ps, rfl, hps⟩ := nD_of hp2
  rw [List.length_map, List.length_range, nD_len] at hl2
  refine L_gen fun P' K hK hR' => ?_
  simp only [L_nil, L_cons, S_expr, S_asg, S_asgT, S_par, S_parO, N_nil, N_tt, N_ff, setRs, S_setIx, S_ret, S_retN, S_ite, S_for, S_while, S_pass, S_scope, S_spoil, E_non, E_bl, E_int, E_str, E_var, E_op2, E_neg, E_cmp, E_isN, E_notN, E_chn, E_and, E_or, E_not, E_ite, E_lst, E_tup, E_ix, E_slc, E_rev, E_call, E_blt, E_isa, E_mth, E_lc, E_lrng, evA, evF, evS, evP, evIt, evCs, Out.z, Out.o, Out.t, bind_ok, bind_exc, bind_stuck, w_ok, w_exc, w_stuck, then_nx, then_rt, then_exc, then_stuck, Out.noX, wipeR_cons, wipeR_nil, backR_cons, backR_nil, backS_sh, backS_un, spoilS, clampS, Fl.top_hit, Fl.mk_hit, Fl.top_clamp, frz, frzs, opd, look, looks, rv, res, bin, bltD, cmpD, tru, ixD_l, ixD_t, nrm, imm, imms, Sd.ofOpt, setTs, setTg, Fl.top_top, Fl.at_eq, Fl.top_join, Fl.join_top, Fl.join_mk, Fl.top_lo, Nat.reduceLeDiff, seqOf_l, seqOf_t, asgS, backF, byName_nil, endW, List.getElem?_cons_succ, List.getElem?_cons_zero, List.set_cons_succ, List.set_cons_zero, List.length_cons, List.length_nil, List.length_map, List.length_append, List.map_cons, List.map_nil, Option.map_some, Option.map_none, if_true, if_false, ite_true, ite_false, Bool.false_eq_true, Bool.true_eq_false, Bool.not_true, Bool.not_false, Bool.true_and, Bool.false_and, Bool.and_true, Bool.and_false, Bool.true_or, Bool.false_or, Bool.or_true, Bool.or_false, decide_true, decide_false, startR_eq, List.replicate_succ, List.replicate_zero, List.append_nil, Nat.reduceAdd, Nat.reduceSub, Nat.sub_self, List.cons_append, List.nil_append, Option.getD_some, Option.getD_none, Option.bind_some, reduceIte, reduceCtorEq, s__law_draw, e1, ez, rngD_nat hn1, e2]
  refine hK _ ?_
  have hps0 : ps ≠ [] := fun e => by subst e; simp at hl2
  cases R with
  | none =>
    refine L_gen fun P' K hK hR' => ?_
    simp only [L_nil, L_cons, S_expr, S_asg, S_asgT, S_par, S_parO, N_nil, N_tt, N_ff, setRs, S_setIx, S_ret, S_retN, S_ite, S_for, S_while, S_pass, S_scope, S_spoil, E_non, E_bl, E_int, E_str, E_var, E_op2, E_neg, E_cmp, E_isN, E_notN, E_chn, E_and, E_or, E_not, E_ite, E_lst, E_tup, E_ix, E_slc, E_rev, E_call, E_blt, E_isa, E_mth, E_lc, E_lrng, evA, evF, evS, evP, evIt, evCs, Out.z, Out.o, Out.t, bind_ok, bind_exc, bind_stuck, w_ok, w_exc, w_stuck, then_nx, then_rt, then_exc, then_stuck, Out.noX, wipeR_cons, wipeR_nil, backR_cons, backR_nil, backS_sh, backS_un, spoilS, clampS, Fl.top_hit, Fl.mk_hit, Fl.top_clamp, frz, frzs, opd, look, looks, rv, res, bin, bltD, cmpD, tru, ixD_l, ixD_t, nrm, imm, imms, Sd.ofOpt, setTs, setTg, Fl.top_top, Fl.at_eq, Fl.top_join, Fl.join_top, Fl.join_mk, Fl.top_lo, Nat.reduceLeDiff, seqOf_l, seqOf_t, asgS, backF, byName_nil, endW, List.getElem?_cons_succ, List.getElem?_cons_zero, List.set_cons_succ, List.set_cons_zero, List.length_cons, List.length_nil, List.length_map, List.length_append, List.map_cons, List.map_nil, Option.map_some, Option.map_none, if_true, if_false, ite_true, ite_false, Bool.false_eq_true, Bool.true_eq_false, Bool.not_true, Bool.not_false, Bool.true_and, Bool.false_and, Bool.and_true, Bool.and_false, Bool.true_or, Bool.false_or, Bool.or_true, Bool.or_false, decide_true, decide_false, startR_eq, List.replicate_succ, List.replicate_zero, List.append_nil, Nat.reduceAdd, Nat.reduceSub, Nat.sub_self, List.cons_append, List.nil_append, Option.getD_some, Option.getD_none, Option.bind_some, reduceIte, reduceCtorEq, optFl, optL]
    exact hK _ (hN _ _ _ _ hps0 (by omega) hps (stm_le h2 (by omega)))
  | some r =>
    obtain ⟨hr1, hr2⟩ := hR r rfl
    by_cases hj : j < 3
    · have d1 : decide (j < 3) = true := decide_eq_true hj
      obtain ⟨i3, t3, e3, p3, q3, h3⟩ := dr (many := (B : Int)) h2 (by omega) (by omega)
      obtain ⟨n3, rfl⟩ : ∃ n : Nat, i3 = (n : Int) := ⟨i3.toNat, by omega⟩
      obtain ⟨i4, t4, e4, p4, q4, h4⟩ := dr (many := (M : Int)) h3 (by omega) (by omega)
      obtain ⟨n4, rfl⟩ : ∃ n : Nat, i4 = (n : Int) := ⟨i4.toNat, by omega⟩
      have ix : L2.ixN r.length (n4 : Int) = some n4 := by
        unfold L2.ixN
        rw [if_pos (by omega), if_pos (by omega), Int.toNat_natCast]
      refine L_gen fun P' K hK hR' => ?_
      simp only [L_nil, L_cons, S_expr, S_asg, S_asgT, S_par, S_parO, N_nil, N_tt, N_ff, setRs, S_setIx, S_ret, S_retN, S_ite, S_for, S_while, S_pass, S_scope, S_spoil, E_non, E_bl, E_int, E_str, E_var, E_op2, E_neg, E_cmp, E_isN, E_notN, E_chn, E_and, E_or, E_not, E_ite, E_lst, E_tup, E_ix, E_slc, E_rev, E_call, E_blt, E_isa, E_mth, E_lc, E_lrng, evA, evF, evS, evP, evIt, evCs, Out.z, Out.o, Out.t, bind_ok, bind_exc, bind_stuck, w_ok, w_exc, w_stuck, then_nx, then_rt, then_exc, then_stuck, Out.noX, wipeR_cons, wipeR_nil, backR_cons, backR_nil, backS_sh, backS_un, spoilS, clampS, Fl.top_hit, Fl.mk_hit, Fl.top_clamp, frz, frzs, opd, look, looks, rv, res, bin, bltD, cmpD, tru, ixD_l, ixD_t, nrm, imm, imms, Sd.ofOpt, setTs, setTg, Fl.top_top, Fl.at_eq, Fl.top_join, Fl.join_top, Fl.join_mk, Fl.top_lo, Nat.reduceLeDiff, seqOf_l, seqOf_t, asgS, backF, byName_nil, endW, List.getElem?_cons_succ, List.getElem?_cons_zero, List.set_cons_succ, List.set_cons_zero, List.length_cons, List.length_nil, List.length_map, List.length_append, List.map_cons, List.map_nil, Option.map_some, Option.map_none, if_true, if_false, ite_true, ite_false, Bool.false_eq_true, Bool.true_eq_false, Bool.not_true, Bool.not_false, Bool.true_and, Bool.false_and, Bool.and_true, Bool.and_false, Bool.true_or, Bool.false_or, Bool.or_true, Bool.or_false, decide_true, decide_false, startR_eq, List.replicate_succ, List.replicate_zero, List.append_nil, Nat.reduceAdd, Nat.reduceSub, Nat.sub_self, List.cons_append, List.nil_append, Option.getD_some, Option.getD_none, Option.bind_some, reduceIte, reduceCtorEq, optFl, optL, d1, s__law_draw, e3, e4, nD_len, ix, isOwnL]
      have es : (nD r).set n4 (.int (n3 : Int)) = nD (r.set n4 n3) := by unfold nD; rw [List.map_set]
      rw [es]
      refine hK _ (hN _ _ _ _ (fun e => ?_) (by rw [List.length_set]; omega) (fun p hp => ?_) h4)
      · have e2 : (r.set n4 n3).length = 0 := by rw [e]; rfl
        rw [List.length_set] at e2; omega
      · rcases List.mem_or_eq_of_mem_set hp with hp | rfl
        · exact hr2 p hp
        · omega
    · have d1 : decide (j < 3) = false := decide_eq_false hj
      refine L_gen fun P' K hK hR' => ?_
      simp only [L_nil, L_cons, S_expr, S_asg, S_asgT, S_par, S_parO, N_nil, N_tt, N_ff, setRs, S_setIx, S_ret, S_retN, S_ite, S_for, S_while, S_pass, S_scope, S_spoil, E_non, E_bl, E_int, E_str, E_var, E_op2, E_neg, E_cmp, E_isN, E_notN, E_chn, E_and, E_or, E_not, E_ite, E_lst, E_tup, E_ix, E_slc, E_rev, E_call, E_blt, E_isa, E_mth, E_lc, E_lrng, evA, evF, evS, evP, evIt, evCs, Out.z, Out.o, Out.t, bind_ok, bind_exc, bind_stuck, w_ok, w_exc, w_stuck, then_nx, then_rt, then_exc, then_stuck, Out.noX, wipeR_cons, wipeR_nil, backR_cons, backR_nil, backS_sh, backS_un, spoilS, clampS, Fl.top_hit, Fl.mk_hit, Fl.top_clamp, frz, frzs, opd, look, looks, rv, res, bin, bltD, cmpD, tru, ixD_l, ixD_t, nrm, imm, imms, Sd.ofOpt, setTs, setTg, Fl.top_top, Fl.at_eq, Fl.top_join, Fl.join_top, Fl.join_mk, Fl.top_lo, Nat.reduceLeDiff, seqOf_l, seqOf_t, asgS, backF, byName_nil, endW, List.getElem?_cons_succ, List.getElem?_cons_zero, List.set_cons_succ, List.set_cons_zero, List.length_cons, List.length_nil, List.length_map, List.length_append, List.map_cons, List.map_nil, Option.map_some, Option.map_none, if_true, if_false, ite_true, ite_false, Bool.false_eq_true, Bool.true_eq_false, Bool.not_true, Bool.not_false, Bool.true_and, Bool.false_and, Bool.and_true, Bool.and_false, Bool.true_or, Bool.false_or, Bool.or_true, Bool.or_false, decide_true, decide_false, startR_eq, List.replicate_succ, List.replicate_zero, List.append_nil, Nat.reduceAdd, Nat.reduceSub, Nat.sub_self, List.cons_append, List.nil_append, Option.getD_some, Option.getD_none, Option.bind_some, reduceIte, reduceCtorEq, optFl, optL, d1]
      exact hK _ (hN _ _ _ _ hps0 (by omega) hps (stm_le h2 (by omega)))
end Lk76

namespace Lk76
open PySem Sd
theorem imms_nD : ∀ {ps : List Nat}, imms (nD ps) = true
  | [] => by unfold nD; simp only [List.map_nil, imms]
  | p :: ps => by
    have := imms_nD (ps := ps)
    unfold nD at this ⊢
    simp only [List.map_cons, imms, imm, this, Bool.and_self]
theorem c_loose_int (n : Nat) (p : Int) (s : List Stm) : callF Pr (n + 1) "_law_loose" [.stm 0, .int p] s = some (.inl (Fl.top, .int p, s)) := by
  refine callF_rt l__law_loose rfl ?_
  simp only [i__law_loose]
  simp only [L_nil, L_cons, S_expr, S_asg, S_asgT, S_par, S_parO, N_nil, N_tt, N_ff, setRs, S_setIx, S_ret, S_retN, S_ite, S_for, S_while, S_pass, S_scope, S_spoil, E_non, E_bl, E_int, E_str, E_var, E_op2, E_neg, E_cmp, E_isN, E_notN, E_chn, E_and, E_or, E_not, E_ite, E_lst, E_tup, E_ix, E_slc, E_rev, E_call, E_blt, E_isa, E_mth, E_lc, E_lrng, evA, evF, evS, evP, evIt, evCs, Out.z, Out.o, Out.t, bind_ok, bind_exc, bind_stuck, w_ok, w_exc, w_stuck, then_nx, then_rt, then_exc, then_stuck, Out.noX, wipeR_cons, wipeR_nil, backR_cons, backR_nil, backS_sh, backS_un, spoilS, clampS, Fl.top_hit, Fl.mk_hit, Fl.top_clamp, frz, frzs, opd, look, looks, rv, res, bin, bltD, cmpD, tru, ixD_l, ixD_t, nrm, imm, imms, Sd.ofOpt, setTs, setTg, Fl.top_top, Fl.at_eq, Fl.top_join, Fl.join_top, Fl.join_mk, Fl.top_lo, Nat.reduceLeDiff, seqOf_l, seqOf_t, asgS, backF, byName_nil, endW, List.getElem?_cons_succ, List.getElem?_cons_zero, List.set_cons_succ, List.set_cons_zero, List.length_cons, List.length_nil, List.length_map, List.length_append, List.map_cons, List.map_nil, Option.map_some, Option.map_none, if_true, if_false, ite_true, ite_false, Bool.false_eq_true, Bool.true_eq_false, Bool.not_true, Bool.not_false, Bool.true_and, Bool.false_and, Bool.and_true, Bool.and_false, Bool.true_or, Bool.false_or, Bool.or_true, Bool.or_false, decide_true, decide_false, startR_eq, List.replicate_succ, List.replicate_zero, List.append_nil, Nat.reduceAdd, Nat.reduceSub, Nat.sub_self, List.cons_append, List.nil_append, Option.getD_some, Option.getD_none, Option.bind_some, reduceIte, reduceCtorEq, isTy, List.any_cons, List.any_nil, FwS, RtQ]
  (repeat' (first | trivial | rfl | apply And.intro))
def lfl : Bool → Fl
  | true => Fl.at 1
  | false => Fl.top
theorem c_loose {n k : Nat} {t : Stm} (ht : StmOk (k + 1) t) {ps : List Nat} (hn : ps.length ≤ 8) : ∃ b t', callF Pr (n + 2) "_law_loose" [.stm 0, .lst (nD ps)] [t] = some (.inl (lfl b, sq b (nD ps), [t'])) ∧ StmOk k t' := by
  obtain ⟨i, t', e, p1, q1, h1⟩ := call_draw (P := Pr) (n := n) (many := 2) l__law_draw ht (by decide) (by decide)
  unfold nDraw at e
  refine ⟨decide (i = 0), t', callF_rt l__law_loose rfl ?_, h1⟩
  have lc : ∀ f, lcD (callF Pr (n + 1)) (sgOf Pr) 1 (.call "_law_loose" [(.var 0), (.var 3)] [] []) [3] true [] f (nD ps) ⟨[.sh Fl.top (.stm 0), .sh ⟨0, 0⟩ (.lst (nD ps)), .un, .un], [t]⟩ = .ok (.new Fl.top (.lst (nD ps))) ⟨[.sh Fl.top (.stm 0), .sh ⟨0, 0⟩ (.lst (nD ps)), .un, .un], [t]⟩ := fun f => by
    have h1 := lcD_map (cl := callF Pr (n + 1)) (sg := sgOf Pr) (lv := 1) (e := .call "_law_loose" [(.var 0), (.var 3)] [] []) (ts := [3]) (one := true) (f := f) (r := [.sh Fl.top (.stm 0), .sh ⟨0, 0⟩ (.lst (nD ps)), .un, .un]) (r1 := [.sh Fl.top (.stm 0), .sh ⟨0, 0⟩ (.lst (nD ps)), .un, .un]) (s := [t]) ps (fun (p : Nat) => D.int (p : Int)) (fun (p : Nat) => D.int (p : Int)) (by unfold SZ; omega) rfl (fun p hp => by
      have hc := c_loose_int n (p : Int) [t]
      simp only [lcT]
      simp only [L_nil, L_cons, S_expr, S_asg, S_asgT, S_par, S_parO, N_nil, N_tt, N_ff, setRs, S_setIx, S_ret, S_retN, S_ite, S_for, S_while, S_pass, S_scope, S_spoil, E_non, E_bl, E_int, E_str, E_var, E_op2, E_neg, E_cmp, E_isN, E_notN, E_chn, E_and, E_or, E_not, E_ite, E_lst, E_tup, E_ix, E_slc, E_rev, E_call, E_blt, E_isa, E_mth, E_lc, E_lrng, evA, evF, evS, evP, evIt, evCs, Out.z, Out.o, Out.t, bind_ok, bind_exc, bind_stuck, w_ok, w_exc, w_stuck, then_nx, then_rt, then_exc, then_stuck, Out.noX, wipeR_cons, wipeR_nil, backR_cons, backR_nil, backS_sh, backS_un, spoilS, clampS, Fl.top_hit, Fl.mk_hit, Fl.top_clamp, frz, frzs, opd, look, looks, rv, res, bin, bltD, cmpD, tru, ixD_l, ixD_t, nrm, imm, imms, Sd.ofOpt, setTs, setTg, Fl.top_top, Fl.at_eq, Fl.top_join, Fl.join_top, Fl.join_mk, Fl.top_lo, Nat.reduceLeDiff, seqOf_l, seqOf_t, asgS, backF, byName_nil, endW, List.getElem?_cons_succ, List.getElem?_cons_zero, List.set_cons_succ, List.set_cons_zero, List.length_cons, List.length_nil, List.length_map, List.length_append, List.map_cons, List.map_nil, Option.map_some, Option.map_none, if_true, if_false, ite_true, ite_false, Bool.false_eq_true, Bool.true_eq_false, Bool.not_true, Bool.not_false, Bool.true_and, Bool.false_and, Bool.and_true, Bool.and_false, Bool.true_or, Bool.false_or, Bool.or_true, Bool.or_false, decide_true, decide_false, startR_eq, List.replicate_succ, List.replicate_zero, List.append_nil, Nat.reduceAdd, Nat.reduceSub, Nat.sub_self, List.cons_append, List.nil_append, Option.getD_some, Option.getD_none, Option.bind_some, reduceIte, reduceCtorEq, s__law_loose, hc, TuOk]
      (repeat' (first | trivial | rfl | apply And.intro)))
    refine h1.trans ?_
    simp only [L_nil, L_cons, S_expr, S_asg, S_asgT, S_par, S_parO, N_nil, N_tt, N_ff, setRs, S_setIx, S_ret, S_retN, S_ite, S_for, S_while, S_pass, S_scope, S_spoil, E_non, E_bl, E_int, E_str, E_var, E_op2, E_neg, E_cmp, E_isN, E_notN, E_chn, E_and, E_or, E_not, E_ite, E_lst, E_tup, E_ix, E_slc, E_rev, E_call, E_blt, E_isa, E_mth, E_lc, E_lrng, evA, evF, evS, evP, evIt, evCs, Out.z, Out.o, Out.t, bind_ok, bind_exc, bind_stuck, w_ok, w_exc, w_stuck, then_nx, then_rt, then_exc, then_stuck, Out.noX, wipeR_cons, wipeR_nil, backR_cons, backR_nil, backS_sh, backS_un, spoilS, clampS, Fl.top_hit, Fl.mk_hit, Fl.top_clamp, frz, frzs, opd, look, looks, rv, res, bin, bltD, cmpD, tru, ixD_l, ixD_t, nrm, imm, imms, Sd.ofOpt, setTs, setTg, Fl.top_top, Fl.at_eq, Fl.top_join, Fl.join_top, Fl.join_mk, Fl.top_lo, Nat.reduceLeDiff, seqOf_l, seqOf_t, asgS, backF, byName_nil, endW, List.getElem?_cons_succ, List.getElem?_cons_zero, List.set_cons_succ, List.set_cons_zero, List.length_cons, List.length_nil, List.length_map, List.length_append, List.map_cons, List.map_nil, Option.map_some, Option.map_none, if_true, if_false, ite_true, ite_false, Bool.false_eq_true, Bool.true_eq_false, Bool.not_true, Bool.not_false, Bool.true_and, Bool.false_and, Bool.and_true, Bool.and_false, Bool.true_or, Bool.false_or, Bool.or_true, Bool.or_false, decide_true, decide_false, startR_eq, List.replicate_succ, List.replicate_zero, List.append_nil, Nat.reduceAdd, Nat.reduceSub, Nat.sub_self, List.cons_append, List.nil_append, Option.getD_some, Option.getD_none, Option.bind_some, reduceIte, reduceCtorEq]
    rfl
  have hi : i = 0 ∨ i = 1 := by omega
  simp only [Sd.ofOpt, setTg, setTs, w_ok, if_true, if_false, Bool.false_eq_true, List.set_cons_succ, List.set_cons_zero, startR_eq, List.map_cons, List.map_nil, List.length_cons, List.length_nil, List.replicate_succ, List.replicate_zero, List.cons_append, List.nil_append, nrm, imm, Nat.reduceAdd, Nat.reduceSub, i__law_loose]
  refine L_gen fun P' K hK hR => ?_
  simp only [L_nil, L_cons, S_expr, S_asg, S_asgT, S_par, S_parO, N_nil, N_tt, N_ff, setRs, S_setIx, S_ret, S_retN, S_ite, S_for, S_while, S_pass, S_scope, S_spoil, E_non, E_bl, E_int, E_str, E_var, E_op2, E_neg, E_cmp, E_isN, E_notN, E_chn, E_and, E_or, E_not, E_ite, E_lst, E_tup, E_ix, E_slc, E_rev, E_call, E_blt, E_isa, E_mth, E_lc, E_lrng, evA, evF, evS, evP, evIt, evCs, Out.z, Out.o, Out.t, bind_ok, bind_exc, bind_stuck, w_ok, w_exc, w_stuck, then_nx, then_rt, then_exc, then_stuck, Out.noX, wipeR_cons, wipeR_nil, backR_cons, backR_nil, backS_sh, backS_un, spoilS, clampS, Fl.top_hit, Fl.mk_hit, Fl.top_clamp, frz, frzs, opd, look, looks, rv, res, bin, bltD, cmpD, tru, ixD_l, ixD_t, nrm, imm, imms, Sd.ofOpt, setTs, setTg, Fl.top_top, Fl.at_eq, Fl.top_join, Fl.join_top, Fl.join_mk, Fl.top_lo, Nat.reduceLeDiff, seqOf_l, seqOf_t, asgS, backF, byName_nil, endW, List.getElem?_cons_succ, List.getElem?_cons_zero, List.set_cons_succ, List.set_cons_zero, List.length_cons, List.length_nil, List.length_map, List.length_append, List.map_cons, List.map_nil, Option.map_some, Option.map_none, if_true, if_false, ite_true, ite_false, Bool.false_eq_true, Bool.true_eq_false, Bool.not_true, Bool.not_false, Bool.true_and, Bool.false_and, Bool.and_true, Bool.and_false, Bool.true_or, Bool.false_or, Bool.or_true, Bool.or_false, decide_true, decide_false, startR_eq, List.replicate_succ, List.replicate_zero, List.append_nil, Nat.reduceAdd, Nat.reduceSub, Nat.sub_self, List.cons_append, List.nil_append, Option.getD_some, Option.getD_none, Option.bind_some, reduceIte, reduceCtorEq, isTy, List.any_cons, List.any_nil, lc, s__law_draw, e, eqOk_i, eqD_i]
  rcases hi with rfl | rfl
  · simp only [L_nil, L_cons, S_expr, S_asg, S_asgT, S_par, S_parO, N_nil, N_tt, N_ff, setRs, S_setIx, S_ret, S_retN, S_ite, S_for, S_while, S_pass, S_scope, S_spoil, E_non, E_bl, E_int, E_str, E_var, E_op2, E_neg, E_cmp, E_isN, E_notN, E_chn, E_and, E_or, E_not, E_ite, E_lst, E_tup, E_ix, E_slc, E_rev, E_call, E_blt, E_isa, E_mth, E_lc, E_lrng, evA, evF, evS, evP, evIt, evCs, Out.z, Out.o, Out.t, bind_ok, bind_exc, bind_stuck, w_ok, w_exc, w_stuck, then_nx, then_rt, then_exc, then_stuck, Out.noX, wipeR_cons, wipeR_nil, backR_cons, backR_nil, backS_sh, backS_un, spoilS, clampS, Fl.top_hit, Fl.mk_hit, Fl.top_clamp, frz, frzs, opd, look, looks, rv, res, bin, bltD, cmpD, tru, ixD_l, ixD_t, nrm, imm, imms, Sd.ofOpt, setTs, setTg, Fl.top_top, Fl.at_eq, Fl.top_join, Fl.join_top, Fl.join_mk, Fl.top_lo, Nat.reduceLeDiff, seqOf_l, seqOf_t, asgS, backF, byName_nil, endW, List.getElem?_cons_succ, List.getElem?_cons_zero, List.set_cons_succ, List.set_cons_zero, List.length_cons, List.length_nil, List.length_map, List.length_append, List.map_cons, List.map_nil, Option.map_some, Option.map_none, if_true, if_false, ite_true, ite_false, Bool.false_eq_true, Bool.true_eq_false, Bool.not_true, Bool.not_false, Bool.true_and, Bool.false_and, Bool.and_true, Bool.and_false, Bool.true_or, Bool.false_or, Bool.or_true, Bool.or_false, decide_true, decide_false, startR_eq, List.replicate_succ, List.replicate_zero, List.append_nil, Nat.reduceAdd, Nat.reduceSub, Nat.sub_self, List.cons_append, List.nil_append, Option.getD_some, Option.getD_none, Option.bind_some, reduceIte, reduceCtorEq, beq_self_eq_true]
    exact hR _ _ _ ⟨rfl, rfl, rfl⟩
  · rw [show ((1 : Int) == 0) = false from rfl]
    simp only [L_nil, L_cons, S_expr, S_asg, S_asgT, S_par, S_parO, N_nil, N_tt, N_ff, setRs, S_setIx, S_ret, S_retN, S_ite, S_for, S_while, S_pass, S_scope, S_spoil, E_non, E_bl, E_int, E_str, E_var, E_op2, E_neg, E_cmp, E_isN, E_notN, E_chn, E_and, E_or, E_not, E_ite, E_lst, E_tup, E_ix, E_slc, E_rev, E_call, E_blt, E_isa, E_mth, E_lc, E_lrng, evA, evF, evS, evP, evIt, evCs, Out.z, Out.o, Out.t, bind_ok, bind_exc, bind_stuck, w_ok, w_exc, w_stuck, then_nx, then_rt, then_exc, then_stuck, Out.noX, wipeR_cons, wipeR_nil, backR_cons, backR_nil, backS_sh, backS_un, spoilS, clampS, Fl.top_hit, Fl.mk_hit, Fl.top_clamp, frz, frzs, opd, look, looks, rv, res, bin, bltD, cmpD, tru, ixD_l, ixD_t, nrm, imm, imms, Sd.ofOpt, setTs, setTg, Fl.top_top, Fl.at_eq, Fl.top_join, Fl.join_top, Fl.join_mk, Fl.top_lo, Nat.reduceLeDiff, seqOf_l, seqOf_t, asgS, backF, byName_nil, endW, List.getElem?_cons_succ, List.getElem?_cons_zero, List.set_cons_succ, List.set_cons_zero, List.length_cons, List.length_nil, List.length_map, List.length_append, List.map_cons, List.map_nil, Option.map_some, Option.map_none, if_true, if_false, ite_true, ite_false, Bool.false_eq_true, Bool.true_eq_false, Bool.not_true, Bool.not_false, Bool.true_and, Bool.false_and, Bool.and_true, Bool.and_false, Bool.true_or, Bool.false_or, Bool.or_true, Bool.or_false, decide_true, decide_false, startR_eq, List.replicate_succ, List.replicate_zero, List.append_nil, Nat.reduceAdd, Nat.reduceSub, Nat.sub_self, List.cons_append, List.nil_append, Option.getD_some, Option.getD_none, Option.bind_some, reduceIte, reduceCtorEq, imms_nD]
    exact hR _ _ _ ⟨rfl, rfl, rfl⟩
theorem imm_optF {o : Option (Nat × Nat × Nat)} : imm (optF o) = true := by
  rcases o with _ | ⟨m, i, j⟩ <;> rfl
theorem smOk_optF {o : Option (Nat × Nat × Nat)} : smOk 9 (optF o) = true := by
  rcases o with _ | ⟨m, i, j⟩
  · rfl
  · simp only [optF, smOk, smOks, List.length_cons, List.length_nil, Bool.and_true]
    exact decide_eq_true (by unfold SZ; omega)
theorem rpOks_nD {n : Nat} : ∀ {ps : List Nat}, (∀ p ∈ ps, p ≤ 1000) → rpOks n (nD ps) = true ∧ wgts (nD ps) = 41 * ps.length ∧ txtlessA (nD ps) = true
  | [], _ => by unfold nD; simp [rpOks, wgts, txtlessA]
  | p :: ps, h => by
    obtain ⟨h1, h2, h3⟩ := rpOks_nD (n := n) (ps := ps) fun x hx => h x (List.mem_cons_of_mem _ hx)
    have hp := h p List.mem_cons_self
    unfold nD at h1 h2 h3 ⊢
    have hi : rpOk n (.int (p : Int)) = true := by
      cases n <;> simp only [rpOk, decide_eq_true_eq, Int.natAbs_natCast] <;> omega
    refine ⟨?_, ?_, ?_⟩
    · simp only [List.map_cons, rpOks, h1, hi, Bool.and_self]
    · simp only [List.map_cons, wgts, wgt, h2, List.length_cons]; omega
    · simp only [List.map_cons, txtlessA, txtless, h3, Bool.and_self]
theorem fit_sq {b : Bool} {ps : List Nat} (h : ∀ p ∈ ps, p ≤ 1000) (hl : ps.length ≤ 100) : rpFit (sq b (nD ps)) = true ∧ txtless (sq b (nD ps)) = true := by
  obtain ⟨h1, h2, h3⟩ := rpOks_nD (n := 59) h
  cases b <;> simp only [sq, rpFit, rpOk, wgt, txtless, h1, h2, h3, Bool.true_and, decide_eq_true_eq, and_true] <;> omega
def eI : List IS := [(.parO [12, 13] [(false, (.blt .repr [(.var 10)])), (true, (.lst [(.call "beginning_fault" [(.var 3), (.var 10)] [] [])]))]), (.expr (.mth .append 13 [(.call "beginning_fault" [] ["points", "bottom"] [(.blt .list [(.var 8)]), (.var 3)])])), (.ite (.or (.not (.call "_law_same" [(.var 13), (.lst [(.var 11), (.var 11)])] [] [])) (.cmp .ne (.blt .repr [(.var 10)]) (.var 12))) [(.ret (.bl false))] [])]
theorem asked {t : Stm} {B : Nat} {b : Bool} {ps : List Nat} (h : Pts B ps) (h0 : ps ≠ []) (hp : ∀ p ∈ ps, p < B) (f8 f10 : Fl) (s0 s1 s2 s4 s5 s6 s7 s9 s12 s13 : Slot) {N : C → Prop} {Q : Fw → Prop}
    (hN : ∀ s12 s13, N ⟨[s0, s1, s2, .sh Fl.top (.int (B : Int)), s4, s5, s6, s7, .ow f8 (.lst (nD ps)), s9, .sh f10 (sq b (nD ps)), .sh Fl.top (optF (fault B ps)), s12, s13], [t]⟩) :
    FwS (xL (callF Pr 30) (sgOf Pr) 2 false eI ⟨[s0, s1, s2, .sh Fl.top (.int (B : Int)), s4, s5, s6, s7, .ow f8 (.lst (nD ps)), s9, .sh f10 (sq b (nD ps)), .sh Fl.top (optF (fault B ps)), s12, s13], [t]⟩) N Q := by
  have hn := h.n
  obtain ⟨k1, k2⟩ := fit_sq (b := b) h.p h.n
  have k4 := shown_ok _ k2
  have c1 := c_beginning_fault 25 b B ps h h0 hp [t]
  have c2 := c_beginning_fault 25 true B ps h h0 hp [t]
  simp only [sq] at c2
  have hb : byName (["bottom", "points"] : List Str) [] ["points", "bottom"] [.lst (nD ps), .int (B : Int)] = some [.int (B : Int), .lst (nD ps)] := rfl
  have hI := imm_optF (o := fault B ps)
  have hS := smOk_optF (o := fault B ps)
  generalize optF (fault B ps) = O at *
  have c3 := same (d := .lst [O, O]) (s := [t]) (by simp only [smOk, smOks, hS, List.length_cons, List.length_nil, Bool.and_true]; exact decide_eq_true (by unfold SZ; omega))
  have z1 : 1 ≤ SZ := by unfold SZ; omega
  have z2 : 2 ≤ SZ := by unfold SZ; omega
  have z3 : mthD .append [O] [O] = some (.non, [O, O]) := mth_app (xs := [O]) (by show 1 < SZ; unfold SZ; omega)
  unfold eI
  cases b
  all_goals
    simp only [sq] at k1 k2 k4 c1 hN ⊢
    refine L_gen fun P' K hK hR => ?_
    simp only [L_nil, L_cons, S_expr, S_asg, S_asgT, S_par, S_parO, N_nil, N_tt, N_ff, setRs, S_setIx, S_ret, S_retN, S_ite, S_for, S_while, S_pass, S_scope, S_spoil, E_non, E_bl, E_int, E_str, E_var, E_op2, E_neg, E_cmp, E_isN, E_notN, E_chn, E_and, E_or, E_not, E_ite, E_lst, E_tup, E_ix, E_slc, E_rev, E_call, E_blt, E_isa, E_mth, E_lc, E_lrng, evA, evF, evS, evP, evIt, evCs, Out.z, Out.o, Out.t, bind_ok, bind_exc, bind_stuck, w_ok, w_exc, w_stuck, then_nx, then_rt, then_exc, then_stuck, Out.noX, wipeR_cons, wipeR_nil, backR_cons, backR_nil, backS_sh, backS_un, spoilS, clampS, Fl.top_hit, Fl.mk_hit, Fl.top_clamp, frz, frzs, opd, look, looks, rv, res, bin, bltD, cmpD, tru, ixD_l, ixD_t, nrm, imm, imms, Sd.ofOpt, setTs, setTg, Fl.top_top, Fl.at_eq, Fl.top_join, Fl.join_top, Fl.join_mk, Fl.top_lo, Nat.reduceLeDiff, seqOf_l, seqOf_t, asgS, backF, byName_nil, endW, List.getElem?_cons_succ, List.getElem?_cons_zero, List.set_cons_succ, List.set_cons_zero, List.length_cons, List.length_nil, List.length_map, List.length_append, List.map_cons, List.map_nil, Option.map_some, Option.map_none, if_true, if_false, ite_true, ite_false, Bool.false_eq_true, Bool.true_eq_false, Bool.not_true, Bool.not_false, Bool.true_and, Bool.false_and, Bool.and_true, Bool.and_false, Bool.true_or, Bool.false_or, Bool.or_true, Bool.or_false, decide_true, decide_false, startR_eq, List.replicate_succ, List.replicate_zero, List.append_nil, Nat.reduceAdd, Nat.reduceSub, Nat.sub_self, List.cons_append, List.nil_append, Option.getD_some, Option.getD_none, Option.bind_some, reduceIte, reduceCtorEq, k1, s_beginning_fault, c1, hI, z1]
    refine hK _ (L_gen fun P' K hK hR => ?_)
    simp only [L_nil, L_cons, S_expr, S_asg, S_asgT, S_par, S_parO, N_nil, N_tt, N_ff, setRs, S_setIx, S_ret, S_retN, S_ite, S_for, S_while, S_pass, S_scope, S_spoil, E_non, E_bl, E_int, E_str, E_var, E_op2, E_neg, E_cmp, E_isN, E_notN, E_chn, E_and, E_or, E_not, E_ite, E_lst, E_tup, E_ix, E_slc, E_rev, E_call, E_blt, E_isa, E_mth, E_lc, E_lrng, evA, evF, evS, evP, evIt, evCs, Out.z, Out.o, Out.t, bind_ok, bind_exc, bind_stuck, w_ok, w_exc, w_stuck, then_nx, then_rt, then_exc, then_stuck, Out.noX, wipeR_cons, wipeR_nil, backR_cons, backR_nil, backS_sh, backS_un, spoilS, clampS, Fl.top_hit, Fl.mk_hit, Fl.top_clamp, frz, frzs, opd, look, looks, rv, res, bin, bltD, cmpD, tru, ixD_l, ixD_t, nrm, imm, imms, Sd.ofOpt, setTs, setTg, Fl.top_top, Fl.at_eq, Fl.top_join, Fl.join_top, Fl.join_mk, Fl.top_lo, Nat.reduceLeDiff, seqOf_l, seqOf_t, asgS, backF, byName_nil, endW, List.getElem?_cons_succ, List.getElem?_cons_zero, List.set_cons_succ, List.set_cons_zero, List.length_cons, List.length_nil, List.length_map, List.length_append, List.map_cons, List.map_nil, Option.map_some, Option.map_none, if_true, if_false, ite_true, ite_false, Bool.false_eq_true, Bool.true_eq_false, Bool.not_true, Bool.not_false, Bool.true_and, Bool.false_and, Bool.and_true, Bool.and_false, Bool.true_or, Bool.false_or, Bool.or_true, Bool.or_false, decide_true, decide_false, startR_eq, List.replicate_succ, List.replicate_zero, List.append_nil, Nat.reduceAdd, Nat.reduceSub, Nat.sub_self, List.cons_append, List.nil_append, Option.getD_some, Option.getD_none, Option.bind_some, reduceIte, reduceCtorEq, s_beginning_fault, hb, c2, hI, z1, z3, isOwnL]
    refine hK _ (L_gen fun P' K hK hR => ?_)
    simp only [L_nil, L_cons, S_expr, S_asg, S_asgT, S_par, S_parO, N_nil, N_tt, N_ff, setRs, S_setIx, S_ret, S_retN, S_ite, S_for, S_while, S_pass, S_scope, S_spoil, E_non, E_bl, E_int, E_str, E_var, E_op2, E_neg, E_cmp, E_isN, E_notN, E_chn, E_and, E_or, E_not, E_ite, E_lst, E_tup, E_ix, E_slc, E_rev, E_call, E_blt, E_isa, E_mth, E_lc, E_lrng, evA, evF, evS, evP, evIt, evCs, Out.z, Out.o, Out.t, bind_ok, bind_exc, bind_stuck, w_ok, w_exc, w_stuck, then_nx, then_rt, then_exc, then_stuck, Out.noX, wipeR_cons, wipeR_nil, backR_cons, backR_nil, backS_sh, backS_un, spoilS, clampS, Fl.top_hit, Fl.mk_hit, Fl.top_clamp, frz, frzs, opd, look, looks, rv, res, bin, bltD, cmpD, tru, ixD_l, ixD_t, nrm, imm, imms, Sd.ofOpt, setTs, setTg, Fl.top_top, Fl.at_eq, Fl.top_join, Fl.join_top, Fl.join_mk, Fl.top_lo, Nat.reduceLeDiff, seqOf_l, seqOf_t, asgS, backF, byName_nil, endW, List.getElem?_cons_succ, List.getElem?_cons_zero, List.set_cons_succ, List.set_cons_zero, List.length_cons, List.length_nil, List.length_map, List.length_append, List.map_cons, List.map_nil, Option.map_some, Option.map_none, if_true, if_false, ite_true, ite_false, Bool.false_eq_true, Bool.true_eq_false, Bool.not_true, Bool.not_false, Bool.true_and, Bool.false_and, Bool.and_true, Bool.and_false, Bool.true_or, Bool.false_or, Bool.or_true, Bool.or_false, decide_true, decide_false, startR_eq, List.replicate_succ, List.replicate_zero, List.append_nil, Nat.reduceAdd, Nat.reduceSub, Nat.sub_self, List.cons_append, List.nil_append, Option.getD_some, Option.getD_none, Option.bind_some, reduceIte, reduceCtorEq, k1, s__law_same, c3, hI, z2, eqOk_str, k4, eqD_str, beq_self_eq_true]
    exact hK _ (L_end (hN _ _))
end Lk76

namespace Lk76
open PySem Sd
def shp (s0 s1 : Slot) (B M : Nat) (R : Option (List Nat)) (k : Nat) (c : C) : Prop := ∃ s6 s7 s8 s9 s10 s11 s12 s13 t, c = ⟨[s0, s1, .sh Fl.top (.stm 0), .sh Fl.top (.int (B : Int)), .sh Fl.top (.int (M : Int)), .sh (optFl R) (optL R), s6, s7, s8, s9, s10, s11, s12, s13], [t]⟩ ∧ StmOk k t
def turnI : List IS := dI ++ ((.par [10, 11] [(.call "_law_loose" [(.var 2), (.var 8)] [] []), (.call "_law_beginning_fault" [(.var 3), (.var 8)] [] [])]) :: eI)
theorem turn {k : Nat} {t : Stm} (ht : StmOk (k + 12) t) {B M : Nat} (hB1 : 1 ≤ B) (hB : B ≤ 30) (hM1 : 1 ≤ M) (hM : M ≤ 8) {R : Option (List Nat)} (hR : ∀ r, R = some r → r.length = M ∧ ∀ p ∈ r, p < B) (s0 s1 s6 s8 s9 s10 s11 s12 s13 : Slot) (j : Int) {Q : Fw → Prop} :
    FwS (xL (callF Pr 30) (sgOf Pr) 2 false turnI ⟨[s0, s1, .sh Fl.top (.stm 0), .sh Fl.top (.int (B : Int)), .sh Fl.top (.int (M : Int)), .sh (optFl R) (optL R), s6, .sh Fl.top (.int j), s8, s9, s10, s11, s12, s13], [t]⟩) (shp s0 s1 B M R k) Q := by
  unfold turnI
  refine drawn (k := k + 1) ht hB1 hB hM1 hM hR s0 s1 s6 s8 s9 s10 s11 s12 s13 j fun f8 ps s9 t' h0 h8 hp ht => ?_
  have hpts : Pts B ps := ⟨hB1, by omega, by omega, fun q hq => by have := hp q hq; omega⟩
  obtain ⟨b, t2, e, ht2⟩ := c_loose (n := 28) ht h8
  have c1 := c__law_beginning_fault 28 true B ps hpts [t2]
  simp only [sq] at c1
  have hI := imm_optF (o := fault B ps)
  refine L_gen fun P' K hK hR' => ?_
  cases b with
  | true =>
    simp only [sq, lfl] at e
    simp only [L_nil, L_cons, S_expr, S_asg, S_asgT, S_par, S_parO, N_nil, N_tt, N_ff, setRs, S_setIx, S_ret, S_retN, S_ite, S_for, S_while, S_pass, S_scope, S_spoil, E_non, E_bl, E_int, E_str, E_var, E_op2, E_neg, E_cmp, E_isN, E_notN, E_chn, E_and, E_or, E_not, E_ite, E_lst, E_tup, E_ix, E_slc, E_rev, E_call, E_blt, E_isa, E_mth, E_lc, E_lrng, evA, evF, evS, evP, evIt, evCs, Out.z, Out.o, Out.t, bind_ok, bind_exc, bind_stuck, w_ok, w_exc, w_stuck, then_nx, then_rt, then_exc, then_stuck, Out.noX, wipeR_cons, wipeR_nil, backR_cons, backR_nil, backS_sh, backS_un, spoilS, clampS, Fl.top_hit, Fl.mk_hit, Fl.top_clamp, frz, frzs, opd, look, looks, rv, res, bin, bltD, cmpD, tru, ixD_l, ixD_t, nrm, imm, imms, Sd.ofOpt, setTs, setTg, Fl.top_top, Fl.at_eq, Fl.top_join, Fl.join_top, Fl.join_mk, Fl.top_lo, Nat.reduceLeDiff, seqOf_l, seqOf_t, asgS, backF, byName_nil, endW, List.getElem?_cons_succ, List.getElem?_cons_zero, List.set_cons_succ, List.set_cons_zero, List.length_cons, List.length_nil, List.length_map, List.length_append, List.map_cons, List.map_nil, Option.map_some, Option.map_none, if_true, if_false, ite_true, ite_false, Bool.false_eq_true, Bool.true_eq_false, Bool.not_true, Bool.not_false, Bool.true_and, Bool.false_and, Bool.and_true, Bool.and_false, Bool.true_or, Bool.false_or, Bool.or_true, Bool.or_false, decide_true, decide_false, startR_eq, List.replicate_succ, List.replicate_zero, List.append_nil, Nat.reduceAdd, Nat.reduceSub, Nat.sub_self, List.cons_append, List.nil_append, Option.getD_some, Option.getD_none, Option.bind_some, reduceIte, reduceCtorEq, s__law_loose, s__law_beginning_fault, e, c1, hI]
    exact hK _ (asked (b := true) hpts h0 hp f8 _ _ _ _ _ _ _ _ _ _ _ fun s12 s13 => ⟨_, _, _, _, _, _, _, _, _, rfl, ht2⟩)
  | false =>
    simp only [sq, lfl] at e
    simp only [L_nil, L_cons, S_expr, S_asg, S_asgT, S_par, S_parO, N_nil, N_tt, N_ff, setRs, S_setIx, S_ret, S_retN, S_ite, S_for, S_while, S_pass, S_scope, S_spoil, E_non, E_bl, E_int, E_str, E_var, E_op2, E_neg, E_cmp, E_isN, E_notN, E_chn, E_and, E_or, E_not, E_ite, E_lst, E_tup, E_ix, E_slc, E_rev, E_call, E_blt, E_isa, E_mth, E_lc, E_lrng, evA, evF, evS, evP, evIt, evCs, Out.z, Out.o, Out.t, bind_ok, bind_exc, bind_stuck, w_ok, w_exc, w_stuck, then_nx, then_rt, then_exc, then_stuck, Out.noX, wipeR_cons, wipeR_nil, backR_cons, backR_nil, backS_sh, backS_un, spoilS, clampS, Fl.top_hit, Fl.mk_hit, Fl.top_clamp, frz, frzs, opd, look, looks, rv, res, bin, bltD, cmpD, tru, ixD_l, ixD_t, nrm, imm, imms, Sd.ofOpt, setTs, setTg, Fl.top_top, Fl.at_eq, Fl.top_join, Fl.join_top, Fl.join_mk, Fl.top_lo, Nat.reduceLeDiff, seqOf_l, seqOf_t, asgS, backF, byName_nil, endW, List.getElem?_cons_succ, List.getElem?_cons_zero, List.set_cons_succ, List.set_cons_zero, List.length_cons, List.length_nil, List.length_map, List.length_append, List.map_cons, List.map_nil, Option.map_some, Option.map_none, if_true, if_false, ite_true, ite_false, Bool.false_eq_true, Bool.true_eq_false, Bool.not_true, Bool.not_false, Bool.true_and, Bool.false_and, Bool.and_true, Bool.and_false, Bool.true_or, Bool.false_or, Bool.or_true, Bool.or_false, decide_true, decide_false, startR_eq, List.replicate_succ, List.replicate_zero, List.append_nil, Nat.reduceAdd, Nat.reduceSub, Nat.sub_self, List.cons_append, List.nil_append, Option.getD_some, Option.getD_none, Option.bind_some, reduceIte, reduceCtorEq, s__law_loose, s__law_beginning_fault, e, c1, hI, imms_nD]
    exact hK _ (asked (b := false) hpts h0 hp f8 _ _ _ _ _ _ _ _ _ _ _ fun s12 s13 => ⟨_, _, _, _, _, _, _, _, _, rfl, ht2⟩)
theorem smOk_nD {n : Nat} {ps : List Nat} (h : ps.length ≤ 1000) : smOk (n + 1) (.lst (nD ps)) = true := by
  have : ∀ ps : List Nat, smOks n (nD ps) = true := fun ps => by
    induction ps with
    | nil => unfold nD; simp only [List.map_nil, smOks]
    | cons p ps ih =>
      unfold nD at ih ⊢
      simp only [List.map_cons, smOks, ih, Bool.and_true]
      cases n <;> simp only [smOk]
  simp only [smOk, this, Bool.and_true]
  exact decide_eq_true (by rw [nD_len]; unfold SZ; omega)
theorem sp_nD {n : Nat} : ∀ {ps : List Nat}, spOks n (nD ps) = true ∧ nodess (nD ps) = ps.length
  | [] => by unfold nD; simp [spOks, nodess]
  | p :: ps => by
    obtain ⟨h1, h2⟩ := sp_nD (n := n) (ps := ps)
    unfold nD at h1 h2 ⊢
    refine ⟨?_, ?_⟩
    · simp only [List.map_cons, spOks, h1, Bool.and_true]
      cases n <;> simp only [spOk]
    · simp only [List.map_cons, nodess, nodes, h2, List.length_cons]; omega
def askI : List IS := [(.for [7] true (.rng [(.int (5))]) turnI)]
theorem ask_run {t : Stm} {k : Nat} (ht : StmOk (12 * 5 + k) t) {B M : Nat} (hB1 : 1 ≤ B) (hB : B ≤ 30) (hM1 : 1 ≤ M) (hM : M ≤ 8) {R : Option (List Nat)} (hR : ∀ r, R = some r → r.length = M ∧ ∀ p ∈ r, p < B) (s0 s1 s6 s7 s8 s9 s10 s11 s12 s13 : Slot) {Q : Fw → Prop} {N : C → Prop} (hN : ∀ c, shp s0 s1 B M R k c → N c) :
    FwS (xL (callF Pr 30) (sgOf Pr) 2 true askI ⟨[s0, s1, .sh Fl.top (.stm 0), .sh Fl.top (.int (B : Int)), .sh Fl.top (.int (M : Int)), .sh (optFl R) (optL R), s6, s7, s8, s9, s10, s11, s12, s13], [t]⟩) N Q := by
  have h5 : rngD [.int 5] = some ((List.range 5).map fun (k : Nat) => D.int (k : Int)) := rngD_nat (m := 5) (by decide)
  unfold askI
  refine L_for (f := Fl.top) (xs := (List.range 5).map fun (k : Nat) => D.int (k : Int)) (c1 := ⟨[s0, s1, .sh Fl.top (.stm 0), .sh Fl.top (.int (B : Int)), .sh Fl.top (.int (M : Int)), .sh (optFl R) (optL R), s6, s7, s8, s9, s10, s11, s12, s13], [t]⟩) (fun xs c => shp s0 s1 B M R (12 * xs.length + k) c ∧ ∀ x ∈ xs, ∃ j : Nat, x = .int (j : Int)) (It_rng (f := Fl.top) h5 (by simp only [L_nil, L_cons, S_expr, S_asg, S_asgT, S_par, S_parO, N_nil, N_tt, N_ff, setRs, S_setIx, S_ret, S_retN, S_ite, S_for, S_while, S_pass, S_scope, S_spoil, E_non, E_bl, E_int, E_str, E_var, E_op2, E_neg, E_cmp, E_isN, E_notN, E_chn, E_and, E_or, E_not, E_ite, E_lst, E_tup, E_ix, E_slc, E_rev, E_call, E_blt, E_isa, E_mth, E_lc, E_lrng, evA, evF, evS, evP, evIt, evCs, Out.z, Out.o, Out.t, bind_ok, bind_exc, bind_stuck, w_ok, w_exc, w_stuck, then_nx, then_rt, then_exc, then_stuck, Out.noX, wipeR_cons, wipeR_nil, backR_cons, backR_nil, backS_sh, backS_un, spoilS, clampS, Fl.top_hit, Fl.mk_hit, Fl.top_clamp, frz, frzs, opd, look, looks, rv, res, bin, bltD, cmpD, tru, ixD_l, ixD_t, nrm, imm, imms, Sd.ofOpt, setTs, setTg, Fl.top_top, Fl.at_eq, Fl.top_join, Fl.join_top, Fl.join_mk, Fl.top_lo, Nat.reduceLeDiff, seqOf_l, seqOf_t, asgS, backF, byName_nil, endW, List.getElem?_cons_succ, List.getElem?_cons_zero, List.set_cons_succ, List.set_cons_zero, List.length_cons, List.length_nil, List.length_map, List.length_append, List.map_cons, List.map_nil, Option.map_some, Option.map_none, if_true, if_false, ite_true, ite_false, Bool.false_eq_true, Bool.true_eq_false, Bool.not_true, Bool.not_false, Bool.true_and, Bool.false_and, Bool.and_true, Bool.and_false, Bool.true_or, Bool.false_or, Bool.or_true, Bool.or_false, decide_true, decide_false, startR_eq, List.replicate_succ, List.replicate_zero, List.append_nil, Nat.reduceAdd, Nat.reduceSub, Nat.sub_self, List.cons_append, List.nil_append, Option.getD_some, Option.getD_none, Option.bind_some, reduceIte, reduceCtorEq])) ⟨⟨_, _, _, _, _, _, _, _, _, rfl, ht⟩, fun x hx => by
      obtain ⟨j, _, rfl⟩ := List.mem_map.mp hx
      exact ⟨j, rfl⟩⟩ ?_ ?_
  · rintro x xs c ⟨⟨s6, s7, s8, s9, s10, s11, s12, s13, t, rfl, ht⟩, hx⟩
    obtain ⟨j, rfl⟩ := hx x List.mem_cons_self
    simp only [Sd.ofOpt, setTg, setTs, w_ok, if_true, if_false, Bool.false_eq_true, List.set_cons_succ, List.set_cons_zero, startR_eq, List.map_cons, List.map_nil, List.length_cons, List.length_nil, List.replicate_succ, List.replicate_zero, List.cons_append, List.nil_append, nrm, imm, Nat.reduceAdd, Nat.reduceSub]
    have e : 12 * (D.int (j : Int) :: xs).length + k = (12 * xs.length + k) + 12 := by rw [List.length_cons]; omega
    rw [e] at ht
    exact FwS_imp (turn ht hB1 hB hM1 hM hR s0 s1 s6 s8 s9 s10 s11 s12 s13 (j : Int)) fun c hc => ⟨hc, fun y hy => hx y (List.mem_cons_of_mem _ hy)⟩
  · rintro c ⟨hc, _⟩
    rw [List.length_nil, Nat.mul_zero, Nat.zero_add] at hc
    exact L_end (hN c hc)
end Lk76

namespace Lk76
open PySem Sd
theorem smOk_two {n : Nat} {x y : D} (hx : smOk n x = true) (hy : smOk n y = true) : smOk (n + 1) (.lst [x, y]) = true := by
  simp only [smOk, smOks, hx, hy, List.length_cons, List.length_nil, Bool.and_true]
  exact decide_eq_true (by unfold SZ; omega)
def headI : List IS := [(.asg 6 false (.lst [(.call "fair_line" [(.var 3), (.var 4)] [] []), (.call "fair_line" [] ["many", "bottom"] [(.var 4), (.var 3)])])), (.ite (.not (.call "_law_same" [(.var 6), (.lst [(.var 5), (.var 5)])] [] [])) [(.ret (.bl false))] []), (.ite (.notN (.var 5)) [(.spoil (.var 6)), (.ite (.not (.call "_law_same" [(.lst [(.call "fair_line" [(.var 3), (.var 4)] [] []), (.call "beginning_fault" [(.var 3), (.blt .list [(.var 5)])] [] [])]), (.lst [(.var 5), .non])] [] [])) [(.ret (.bl false))] [])] [])]
theorem head_run {t : Stm} {B M : Nat} (hB1 : 1 ≤ B) (hB : B ≤ 30) (hM1 : 1 ≤ M) (hM : M ≤ 8) (ad : Addr) (j : Int) {is : List IS} {Q : Fw → Prop} {N : C → Prop}
    (hN : ∀ s6, FwS (xL (callF Pr 30) (sgOf Pr) 2 true is ⟨[.sh Fl.top (.obj ad), .sh Fl.top (.int j), .sh Fl.top (.stm 0), .sh Fl.top (.int (B : Int)), .sh Fl.top (.int (M : Int)), .sh (optFl (srch B M [])) (optL (srch B M [])), s6, .un, .un, .un, .un, .un, .un, .un], [t]⟩) N Q) :
    FwS (xL (callF Pr 30) (sgOf Pr) 2 true (headI ++ is) ⟨[.sh Fl.top (.obj ad), .sh Fl.top (.int j), .sh Fl.top (.stm 0), .sh Fl.top (.int (B : Int)), .sh Fl.top (.int (M : Int)), .sh (optFl (srch B M [])) (optL (srch B M [])), .un, .un, .un, .un, .un, .un, .un, .un], [t]⟩) N Q := by
  have c1 := c_fair_line 26 B M hB1 hB hM1 hM [t]
  have hb : byName (["bottom", "many"] : List Str) [] ["many", "bottom"] [.int (M : Int), .int (B : Int)] = some [.int (B : Int), .int (M : Int)] := rfl
  have z2 : 2 ≤ SZ := by unfold SZ; omega
  have hline := fun r => @line_ok B M r
  have hfault := fun r => @fault_line B M r
  unfold headI
  rw [List.cons_append, List.cons_append, List.cons_append, List.nil_append]
  generalize srch B M [] = R at *
  cases R with
  | none =>
    simp only [optFl, optL] at c1 hN ⊢
    have c3 := same (d := .lst [.non, .non]) (s := [t]) (by simp only [smOk, smOks, List.length_cons, List.length_nil, Bool.and_true]; exact decide_eq_true (by unfold SZ; omega))
    refine L_gen fun P' K hK hR => ?_
    simp only [L_nil, L_cons, S_expr, S_asg, S_asgT, S_par, S_parO, N_nil, N_tt, N_ff, setRs, S_setIx, S_ret, S_retN, S_ite, S_for, S_while, S_pass, S_scope, S_spoil, E_non, E_bl, E_int, E_str, E_var, E_op2, E_neg, E_cmp, E_isN, E_notN, E_chn, E_and, E_or, E_not, E_ite, E_lst, E_tup, E_ix, E_slc, E_rev, E_call, E_blt, E_isa, E_mth, E_lc, E_lrng, evA, evF, evS, evP, evIt, evCs, Out.z, Out.o, Out.t, bind_ok, bind_exc, bind_stuck, w_ok, w_exc, w_stuck, then_nx, then_rt, then_exc, then_stuck, Out.noX, wipeR_cons, wipeR_nil, backR_cons, backR_nil, backS_sh, backS_un, spoilS, clampS, Fl.top_hit, Fl.mk_hit, Fl.top_clamp, frz, frzs, opd, look, looks, rv, res, bin, bltD, cmpD, tru, ixD_l, ixD_t, nrm, imm, imms, Sd.ofOpt, setTs, setTg, Fl.top_top, Fl.at_eq, Fl.top_join, Fl.join_top, Fl.join_mk, Fl.top_lo, Nat.reduceLeDiff, seqOf_l, seqOf_t, asgS, backF, byName_nil, endW, List.getElem?_cons_succ, List.getElem?_cons_zero, List.set_cons_succ, List.set_cons_zero, List.length_cons, List.length_nil, List.length_map, List.length_append, List.map_cons, List.map_nil, Option.map_some, Option.map_none, if_true, if_false, ite_true, ite_false, Bool.false_eq_true, Bool.true_eq_false, Bool.not_true, Bool.not_false, Bool.true_and, Bool.false_and, Bool.and_true, Bool.and_false, Bool.true_or, Bool.false_or, Bool.or_true, Bool.or_false, decide_true, decide_false, startR_eq, List.replicate_succ, List.replicate_zero, List.append_nil, Nat.reduceAdd, Nat.reduceSub, Nat.sub_self, List.cons_append, List.nil_append, Option.getD_some, Option.getD_none, Option.bind_some, reduceIte, reduceCtorEq, s_fair_line, hb, c1, z2]
    refine hK _ (L_gen fun P' K hK hR => ?_)
    simp only [L_nil, L_cons, S_expr, S_asg, S_asgT, S_par, S_parO, N_nil, N_tt, N_ff, setRs, S_setIx, S_ret, S_retN, S_ite, S_for, S_while, S_pass, S_scope, S_spoil, E_non, E_bl, E_int, E_str, E_var, E_op2, E_neg, E_cmp, E_isN, E_notN, E_chn, E_and, E_or, E_not, E_ite, E_lst, E_tup, E_ix, E_slc, E_rev, E_call, E_blt, E_isa, E_mth, E_lc, E_lrng, evA, evF, evS, evP, evIt, evCs, Out.z, Out.o, Out.t, bind_ok, bind_exc, bind_stuck, w_ok, w_exc, w_stuck, then_nx, then_rt, then_exc, then_stuck, Out.noX, wipeR_cons, wipeR_nil, backR_cons, backR_nil, backS_sh, backS_un, spoilS, clampS, Fl.top_hit, Fl.mk_hit, Fl.top_clamp, frz, frzs, opd, look, looks, rv, res, bin, bltD, cmpD, tru, ixD_l, ixD_t, nrm, imm, imms, Sd.ofOpt, setTs, setTg, Fl.top_top, Fl.at_eq, Fl.top_join, Fl.join_top, Fl.join_mk, Fl.top_lo, Nat.reduceLeDiff, seqOf_l, seqOf_t, asgS, backF, byName_nil, endW, List.getElem?_cons_succ, List.getElem?_cons_zero, List.set_cons_succ, List.set_cons_zero, List.length_cons, List.length_nil, List.length_map, List.length_append, List.map_cons, List.map_nil, Option.map_some, Option.map_none, if_true, if_false, ite_true, ite_false, Bool.false_eq_true, Bool.true_eq_false, Bool.not_true, Bool.not_false, Bool.true_and, Bool.false_and, Bool.and_true, Bool.and_false, Bool.true_or, Bool.false_or, Bool.or_true, Bool.or_false, decide_true, decide_false, startR_eq, List.replicate_succ, List.replicate_zero, List.append_nil, Nat.reduceAdd, Nat.reduceSub, Nat.sub_self, List.cons_append, List.nil_append, Option.getD_some, Option.getD_none, Option.bind_some, reduceIte, reduceCtorEq, s__law_same, c3, z2]
    refine hK _ (L_gen fun P' K hK hR => ?_)
    simp only [L_nil, L_cons, S_expr, S_asg, S_asgT, S_par, S_parO, N_nil, N_tt, N_ff, setRs, S_setIx, S_ret, S_retN, S_ite, S_for, S_while, S_pass, S_scope, S_spoil, E_non, E_bl, E_int, E_str, E_var, E_op2, E_neg, E_cmp, E_isN, E_notN, E_chn, E_and, E_or, E_not, E_ite, E_lst, E_tup, E_ix, E_slc, E_rev, E_call, E_blt, E_isa, E_mth, E_lc, E_lrng, evA, evF, evS, evP, evIt, evCs, Out.z, Out.o, Out.t, bind_ok, bind_exc, bind_stuck, w_ok, w_exc, w_stuck, then_nx, then_rt, then_exc, then_stuck, Out.noX, wipeR_cons, wipeR_nil, backR_cons, backR_nil, backS_sh, backS_un, spoilS, clampS, Fl.top_hit, Fl.mk_hit, Fl.top_clamp, frz, frzs, opd, look, looks, rv, res, bin, bltD, cmpD, tru, ixD_l, ixD_t, nrm, imm, imms, Sd.ofOpt, setTs, setTg, Fl.top_top, Fl.at_eq, Fl.top_join, Fl.join_top, Fl.join_mk, Fl.top_lo, Nat.reduceLeDiff, seqOf_l, seqOf_t, asgS, backF, byName_nil, endW, List.getElem?_cons_succ, List.getElem?_cons_zero, List.set_cons_succ, List.set_cons_zero, List.length_cons, List.length_nil, List.length_map, List.length_append, List.map_cons, List.map_nil, Option.map_some, Option.map_none, if_true, if_false, ite_true, ite_false, Bool.false_eq_true, Bool.true_eq_false, Bool.not_true, Bool.not_false, Bool.true_and, Bool.false_and, Bool.and_true, Bool.and_false, Bool.true_or, Bool.false_or, Bool.or_true, Bool.or_false, decide_true, decide_false, startR_eq, List.replicate_succ, List.replicate_zero, List.append_nil, Nat.reduceAdd, Nat.reduceSub, Nat.sub_self, List.cons_append, List.nil_append, Option.getD_some, Option.getD_none, Option.bind_some, reduceIte, reduceCtorEq]
    exact hK _ (hN _)
  | some r =>
    obtain ⟨q1, q2, q3⟩ := hline r rfl
    have q4 := hfault r rfl
    have hpts : Pts B r := ⟨hB1, by omega, by omega, fun q hq => by have := q3 q hq; omega⟩
    have h0 : r ≠ [] := fun e => by subst e; simp at q1; omega
    have c2 := c_beginning_fault 25 true B r hpts h0 q3 [t]
    rw [q4] at c2
    simp only [sq, optF] at c2
    simp only [optFl, optL] at c1 hN ⊢
    have sm : ∀ n, smOk (n + 1) (.lst (nD r)) = true := fun n => smOk_nD (by omega)
    have c3 := same (d := .lst [.lst (nD r), .lst (nD r)]) (s := [t]) (smOk_two (n := 9) (sm 8) (sm 8))
    have c4 := same (d := .lst [.lst (nD r), .non]) (s := [t]) (smOk_two (n := 9) (sm 8) (by simp only [smOk]))
    obtain ⟨k1, k2⟩ := sp_nD (n := 18) (ps := r)
    have k3 : spOk 20 (.lst [.lst (nD r), .lst (nD r)]) = true := by simp only [spOk, spOks, k1, Bool.and_self]
    have k4 : decide (2 * nodes (.lst [.lst (nD r), .lst (nD r)]) ≤ SZ) = true := decide_eq_true (by simp only [nodes, nodess, k2]; unfold SZ; omega)
    refine L_gen fun P' K hK hR => ?_
    simp only [L_nil, L_cons, S_expr, S_asg, S_asgT, S_par, S_parO, N_nil, N_tt, N_ff, setRs, S_setIx, S_ret, S_retN, S_ite, S_for, S_while, S_pass, S_scope, S_spoil, E_non, E_bl, E_int, E_str, E_var, E_op2, E_neg, E_cmp, E_isN, E_notN, E_chn, E_and, E_or, E_not, E_ite, E_lst, E_tup, E_ix, E_slc, E_rev, E_call, E_blt, E_isa, E_mth, E_lc, E_lrng, evA, evF, evS, evP, evIt, evCs, Out.z, Out.o, Out.t, bind_ok, bind_exc, bind_stuck, w_ok, w_exc, w_stuck, then_nx, then_rt, then_exc, then_stuck, Out.noX, wipeR_cons, wipeR_nil, backR_cons, backR_nil, backS_sh, backS_un, spoilS, clampS, Fl.top_hit, Fl.mk_hit, Fl.top_clamp, frz, frzs, opd, look, looks, rv, res, bin, bltD, cmpD, tru, ixD_l, ixD_t, nrm, imm, imms, Sd.ofOpt, setTs, setTg, Fl.top_top, Fl.at_eq, Fl.top_join, Fl.join_top, Fl.join_mk, Fl.top_lo, Nat.reduceLeDiff, seqOf_l, seqOf_t, asgS, backF, byName_nil, endW, List.getElem?_cons_succ, List.getElem?_cons_zero, List.set_cons_succ, List.set_cons_zero, List.length_cons, List.length_nil, List.length_map, List.length_append, List.map_cons, List.map_nil, Option.map_some, Option.map_none, if_true, if_false, ite_true, ite_false, Bool.false_eq_true, Bool.true_eq_false, Bool.not_true, Bool.not_false, Bool.true_and, Bool.false_and, Bool.and_true, Bool.and_false, Bool.true_or, Bool.false_or, Bool.or_true, Bool.or_false, decide_true, decide_false, startR_eq, List.replicate_succ, List.replicate_zero, List.append_nil, Nat.reduceAdd, Nat.reduceSub, Nat.sub_self, List.cons_append, List.nil_append, Option.getD_some, Option.getD_none, Option.bind_some, reduceIte, reduceCtorEq, s_fair_line, hb, c1, z2]
    refine hK _ (L_gen fun P' K hK hR => ?_)
    simp only [L_nil, L_cons, S_expr, S_asg, S_asgT, S_par, S_parO, N_nil, N_tt, N_ff, setRs, S_setIx, S_ret, S_retN, S_ite, S_for, S_while, S_pass, S_scope, S_spoil, E_non, E_bl, E_int, E_str, E_var, E_op2, E_neg, E_cmp, E_isN, E_notN, E_chn, E_and, E_or, E_not, E_ite, E_lst, E_tup, E_ix, E_slc, E_rev, E_call, E_blt, E_isa, E_mth, E_lc, E_lrng, evA, evF, evS, evP, evIt, evCs, Out.z, Out.o, Out.t, bind_ok, bind_exc, bind_stuck, w_ok, w_exc, w_stuck, then_nx, then_rt, then_exc, then_stuck, Out.noX, wipeR_cons, wipeR_nil, backR_cons, backR_nil, backS_sh, backS_un, spoilS, clampS, Fl.top_hit, Fl.mk_hit, Fl.top_clamp, frz, frzs, opd, look, looks, rv, res, bin, bltD, cmpD, tru, ixD_l, ixD_t, nrm, imm, imms, Sd.ofOpt, setTs, setTg, Fl.top_top, Fl.at_eq, Fl.top_join, Fl.join_top, Fl.join_mk, Fl.top_lo, Nat.reduceLeDiff, seqOf_l, seqOf_t, asgS, backF, byName_nil, endW, List.getElem?_cons_succ, List.getElem?_cons_zero, List.set_cons_succ, List.set_cons_zero, List.length_cons, List.length_nil, List.length_map, List.length_append, List.map_cons, List.map_nil, Option.map_some, Option.map_none, if_true, if_false, ite_true, ite_false, Bool.false_eq_true, Bool.true_eq_false, Bool.not_true, Bool.not_false, Bool.true_and, Bool.false_and, Bool.and_true, Bool.and_false, Bool.true_or, Bool.false_or, Bool.or_true, Bool.or_false, decide_true, decide_false, startR_eq, List.replicate_succ, List.replicate_zero, List.append_nil, Nat.reduceAdd, Nat.reduceSub, Nat.sub_self, List.cons_append, List.nil_append, Option.getD_some, Option.getD_none, Option.bind_some, reduceIte, reduceCtorEq, s__law_same, c3, z2]
    refine hK _ (L_gen fun P' K hK hR => ?_)
    simp only [L_nil, L_cons, S_expr, S_asg, S_asgT, S_par, S_parO, N_nil, N_tt, N_ff, setRs, S_setIx, S_ret, S_retN, S_ite, S_for, S_while, S_pass, S_scope, S_spoil, E_non, E_bl, E_int, E_str, E_var, E_op2, E_neg, E_cmp, E_isN, E_notN, E_chn, E_and, E_or, E_not, E_ite, E_lst, E_tup, E_ix, E_slc, E_rev, E_call, E_blt, E_isa, E_mth, E_lc, E_lrng, evA, evF, evS, evP, evIt, evCs, Out.z, Out.o, Out.t, bind_ok, bind_exc, bind_stuck, w_ok, w_exc, w_stuck, then_nx, then_rt, then_exc, then_stuck, Out.noX, wipeR_cons, wipeR_nil, backR_cons, backR_nil, backS_sh, backS_un, spoilS, clampS, Fl.top_hit, Fl.mk_hit, Fl.top_clamp, frz, frzs, opd, look, looks, rv, res, bin, bltD, cmpD, tru, ixD_l, ixD_t, nrm, imm, imms, Sd.ofOpt, setTs, setTg, Fl.top_top, Fl.at_eq, Fl.top_join, Fl.join_top, Fl.join_mk, Fl.top_lo, Nat.reduceLeDiff, seqOf_l, seqOf_t, asgS, backF, byName_nil, endW, List.getElem?_cons_succ, List.getElem?_cons_zero, List.set_cons_succ, List.set_cons_zero, List.length_cons, List.length_nil, List.length_map, List.length_append, List.map_cons, List.map_nil, Option.map_some, Option.map_none, if_true, if_false, ite_true, ite_false, Bool.false_eq_true, Bool.true_eq_false, Bool.not_true, Bool.not_false, Bool.true_and, Bool.false_and, Bool.and_true, Bool.and_false, Bool.true_or, Bool.false_or, Bool.or_true, Bool.or_false, decide_true, decide_false, startR_eq, List.replicate_succ, List.replicate_zero, List.append_nil, Nat.reduceAdd, Nat.reduceSub, Nat.sub_self, List.cons_append, List.nil_append, Option.getD_some, Option.getD_none, Option.bind_some, reduceIte, reduceCtorEq, k3, k4, s_fair_line, s_beginning_fault, s__law_same, c1, c2, c4, z2]
    exact hK _ (hN _)
theorem law_ok (ad : Addr) (ns : List Int) (t : Int) (_ : ns.length ≤ 64) (_ : 0 ≤ t) (_ : t < (5 : Nat)) : ∃ c', exL (callF Pr 30) (sgOf Pr) 1 false lawI ⟨law2R ad t 11, [⟨ns, 0, 0, 19⟩]⟩ = .nx c' ∧ c'.r[0]? = some (.sh Fl.top (.obj ad)) ∧ c'.r.length = 11 + 3 := by
  rw [← xL_eq]
  have main : FwS (xL (callF Pr 30) (sgOf Pr) 1 false lawI ⟨law2R ad t 11, [⟨ns, 0, 0, 19⟩]⟩) (fun c' => c'.r[0]? = some (.sh Fl.top (.obj ad)) ∧ c'.r.length = 11 + 3) (fun _ => False) := by
    have h0 : StmOk 63 ⟨ns, 0, 0, 19⟩ := ⟨(by decide : (0 : Int) ≤ 0), (by decide : (0 : Int) + (63 : Nat) < cntMax), (by decide : (0 : Int) ≤ 19), (by decide : (19 : Int) < 2147483629)⟩
    obtain ⟨x, t1, e1, p1, h1⟩ := pk h0 (xs := [3, 8, 30]) (by decide) (by decide)
    simp only [List.map_cons, List.map_nil] at e1
    have hx : 0 < x ∧ x ≤ 30 := by
      simp only [List.mem_cons, List.not_mem_nil, or_false] at p1
      omega
    obtain ⟨i2, t2, e2, p2, q2, h2⟩ := dr (many := x) h1 (by omega) (by omega)
    obtain ⟨i3, t3, e3, p3, q3, h3⟩ := dr (many := 8) h2 (by omega) (by omega)
    obtain ⟨n2, rfl⟩ : ∃ n : Nat, i2 = (n : Int) := ⟨i2.toNat, by omega⟩
    obtain ⟨n3, rfl⟩ : ∃ n : Nat, i3 = (n : Int) := ⟨i3.toNat, by omega⟩
    have z1 : (1 : Int) + (n2 : Int) = ((n2 + 1 : Nat) : Int) := by omega
    have z2 : (1 : Int) + (n3 : Int) = ((n3 + 1 : Nat) : Int) := by omega
    have z3 : 3 ≤ SZ := by unfold SZ; omega
    have c1 := c__law_line 28 (n2 + 1) (n3 + 1) (by omega) (by omega) (by omega) (by omega) [t3]
    unfold lawI law2R
    simp only [Sd.ofOpt, setTg, setTs, w_ok, if_true, if_false, Bool.false_eq_true, List.set_cons_succ, List.set_cons_zero, startR_eq, List.map_cons, List.map_nil, List.length_cons, List.length_nil, List.replicate_succ, List.replicate_zero, List.cons_append, List.nil_append, nrm, imm, Nat.reduceAdd, Nat.reduceSub]
    refine L_gen fun P' K hK hR => ?_
    simp only [L_nil, L_cons, S_expr, S_asg, S_asgT, S_par, S_parO, N_nil, N_tt, N_ff, setRs, S_setIx, S_ret, S_retN, S_ite, S_for, S_while, S_pass, S_scope, S_spoil, E_non, E_bl, E_int, E_str, E_var, E_op2, E_neg, E_cmp, E_isN, E_notN, E_chn, E_and, E_or, E_not, E_ite, E_lst, E_tup, E_ix, E_slc, E_rev, E_call, E_blt, E_isa, E_mth, E_lc, E_lrng, evA, evF, evS, evP, evIt, evCs, Out.z, Out.o, Out.t, bind_ok, bind_exc, bind_stuck, w_ok, w_exc, w_stuck, then_nx, then_rt, then_exc, then_stuck, Out.noX, wipeR_cons, wipeR_nil, backR_cons, backR_nil, backS_sh, backS_un, spoilS, clampS, Fl.top_hit, Fl.mk_hit, Fl.top_clamp, frz, frzs, opd, look, looks, rv, res, bin, bltD, cmpD, tru, ixD_l, ixD_t, nrm, imm, imms, Sd.ofOpt, setTs, setTg, Fl.top_top, Fl.at_eq, Fl.top_join, Fl.join_top, Fl.join_mk, Fl.top_lo, Nat.reduceLeDiff, seqOf_l, seqOf_t, asgS, backF, byName_nil, endW, List.getElem?_cons_succ, List.getElem?_cons_zero, List.set_cons_succ, List.set_cons_zero, List.length_cons, List.length_nil, List.length_map, List.length_append, List.map_cons, List.map_nil, Option.map_some, Option.map_none, if_true, if_false, ite_true, ite_false, Bool.false_eq_true, Bool.true_eq_false, Bool.not_true, Bool.not_false, Bool.true_and, Bool.false_and, Bool.and_true, Bool.and_false, Bool.true_or, Bool.false_or, Bool.or_true, Bool.or_false, decide_true, decide_false, startR_eq, List.replicate_succ, List.replicate_zero, List.append_nil, Nat.reduceAdd, Nat.reduceSub, Nat.sub_self, List.cons_append, List.nil_append, Option.getD_some, Option.getD_none, Option.bind_some, reduceIte, reduceCtorEq, s__law_draw, s__law_pick, e1, e2, e3, z1, z2, z3]
    refine hK _ (L_gen fun P' K hK hR => ?_)
    have hasg : ∀ c : C, c.s = [t3] → True := fun _ _ => trivial
    have step : exS (callF Pr 30) (sgOf Pr) 1 false (.asg 5 false (.call "_law_line" [(.var 3), (.var 4)] [] [])) ⟨[.sh Fl.top (.obj ad), .sh Fl.top (.int t), .sh Fl.top (.stm 0), .sh Fl.top (.int ((n2 + 1 : Nat) : Int)), .sh Fl.top (.int ((n3 + 1 : Nat) : Int)), .un, .un, .un, .un, .un, .un, .un, .un, .un], [t3]⟩ = .nx ⟨[.sh Fl.top (.obj ad), .sh Fl.top (.int t), .sh Fl.top (.stm 0), .sh Fl.top (.int ((n2 + 1 : Nat) : Int)), .sh Fl.top (.int ((n3 + 1 : Nat) : Int)), .sh (optFl (srch (n2 + 1) (n3 + 1) [])) (optL (srch (n2 + 1) (n3 + 1) [])), .un, .un, .un, .un, .un, .un, .un, .un], [t3]⟩ := by
      generalize srch (n2 + 1) (n3 + 1) [] = R at c1
      cases R with
      | none => simp only [optFl, optL] at c1 ⊢; simp only [L_nil, L_cons, S_expr, S_asg, S_asgT, S_par, S_parO, N_nil, N_tt, N_ff, setRs, S_setIx, S_ret, S_retN, S_ite, S_for, S_while, S_pass, S_scope, S_spoil, E_non, E_bl, E_int, E_str, E_var, E_op2, E_neg, E_cmp, E_isN, E_notN, E_chn, E_and, E_or, E_not, E_ite, E_lst, E_tup, E_ix, E_slc, E_rev, E_call, E_blt, E_isa, E_mth, E_lc, E_lrng, evA, evF, evS, evP, evIt, evCs, Out.z, Out.o, Out.t, bind_ok, bind_exc, bind_stuck, w_ok, w_exc, w_stuck, then_nx, then_rt, then_exc, then_stuck, Out.noX, wipeR_cons, wipeR_nil, backR_cons, backR_nil, backS_sh, backS_un, spoilS, clampS, Fl.top_hit, Fl.mk_hit, Fl.top_clamp, frz, frzs, opd, look, looks, rv, res, bin, bltD, cmpD, tru, ixD_l, ixD_t, nrm, imm, imms, Sd.ofOpt, setTs, setTg, Fl.top_top, Fl.at_eq, Fl.top_join, Fl.join_top, Fl.join_mk, Fl.top_lo, Nat.reduceLeDiff, seqOf_l, seqOf_t, asgS, backF, byName_nil, endW, List.getElem?_cons_succ, List.getElem?_cons_zero, List.set_cons_succ, List.set_cons_zero, List.length_cons, List.length_nil, List.length_map, List.length_append, List.map_cons, List.map_nil, Option.map_some, Option.map_none, if_true, if_false, ite_true, ite_false, Bool.false_eq_true, Bool.true_eq_false, Bool.not_true, Bool.not_false, Bool.true_and, Bool.false_and, Bool.and_true, Bool.and_false, Bool.true_or, Bool.false_or, Bool.or_true, Bool.or_false, decide_true, decide_false, startR_eq, List.replicate_succ, List.replicate_zero, List.append_nil, Nat.reduceAdd, Nat.reduceSub, Nat.sub_self, List.cons_append, List.nil_append, Option.getD_some, Option.getD_none, Option.bind_some, reduceIte, reduceCtorEq, s__law_line, c1]
      | some r => simp only [optFl, optL] at c1 ⊢; simp only [L_nil, L_cons, S_expr, S_asg, S_asgT, S_par, S_parO, N_nil, N_tt, N_ff, setRs, S_setIx, S_ret, S_retN, S_ite, S_for, S_while, S_pass, S_scope, S_spoil, E_non, E_bl, E_int, E_str, E_var, E_op2, E_neg, E_cmp, E_isN, E_notN, E_chn, E_and, E_or, E_not, E_ite, E_lst, E_tup, E_ix, E_slc, E_rev, E_call, E_blt, E_isa, E_mth, E_lc, E_lrng, evA, evF, evS, evP, evIt, evCs, Out.z, Out.o, Out.t, bind_ok, bind_exc, bind_stuck, w_ok, w_exc, w_stuck, then_nx, then_rt, then_exc, then_stuck, Out.noX, wipeR_cons, wipeR_nil, backR_cons, backR_nil, backS_sh, backS_un, spoilS, clampS, Fl.top_hit, Fl.mk_hit, Fl.top_clamp, frz, frzs, opd, look, looks, rv, res, bin, bltD, cmpD, tru, ixD_l, ixD_t, nrm, imm, imms, Sd.ofOpt, setTs, setTg, Fl.top_top, Fl.at_eq, Fl.top_join, Fl.join_top, Fl.join_mk, Fl.top_lo, Nat.reduceLeDiff, seqOf_l, seqOf_t, asgS, backF, byName_nil, endW, List.getElem?_cons_succ, List.getElem?_cons_zero, List.set_cons_succ, List.set_cons_zero, List.length_cons, List.length_nil, List.length_map, List.length_append, List.map_cons, List.map_nil, Option.map_some, Option.map_none, if_true, if_false, ite_true, ite_false, Bool.false_eq_true, Bool.true_eq_false, Bool.not_true, Bool.not_false, Bool.true_and, Bool.false_and, Bool.and_true, Bool.and_false, Bool.true_or, Bool.false_or, Bool.or_true, Bool.or_false, decide_true, decide_false, startR_eq, List.replicate_succ, List.replicate_zero, List.append_nil, Nat.reduceAdd, Nat.reduceSub, Nat.sub_self, List.cons_append, List.nil_append, Option.getD_some, Option.getD_none, Option.bind_some, reduceIte, reduceCtorEq, s__law_line, c1]
    rw [step, then_nx]
    refine hK _ ?_
    refine L_scope (FwS_imp (N := fun c : C => c.r[0]? = some (.sh Fl.top (.obj ad)) ∧ c.r.length = 14) ?_ fun c h => ?_)
    · show FwS (xL _ _ 2 true (headI ++ askI) _) _ _
      refine head_run (by omega) (by omega) (by omega) (by omega) ad t fun s6 => ?_
      refine ask_run (k := 0) h3 (by omega) (by omega) (by omega) (by omega) (fun r e => ?_) _ _ _ _ _ _ _ _ _ _ fun c hc => ?_
      · have := line_ok e
        exact ⟨this.1, this.2.2⟩
      · obtain ⟨s6, s7, s8, s9, s10, s11, s12, s13, t, rfl, _⟩ := hc
        exact ⟨rfl, rfl⟩
    · obtain ⟨h1, h2⟩ := h
      refine L_end ⟨?_, ?_⟩
      · show ((c.r.map (clampS 1))[0]?) = _
        rw [List.getElem?_map, h1]
        rfl
      · show (c.r.map (clampS 1)).length = _
        rw [List.length_map, h2]
  cases e : xL (callF Pr 30) (sgOf Pr) 1 false lawI ⟨law2R ad t 11, [⟨ns, 0, 0, 19⟩]⟩ with
  | nx c => rw [e] at main; exact ⟨c, rfl, main.1, main.2⟩
  | rt f d c => rw [e] at main; exact main.elim
  | exc x c => rw [e] at main; exact main.elim
  | stuck => rw [e] at main; exact main.elim
end Lk76

namespace Lk76
open PySem PySem.Spec PyProof.Rows L2 Sd
def top (i : Nat) : Stmt := PySem.Challenge.pw_sidestaken_k76_whole_points_fair_from_th.main.body.getD i (.Pass ⟨0, 0, 0, 0⟩)
def us : List Str := ["_law_draw", "is_list", "is_whole", "is_number", "is_index", "check_bottom", "check_points", "check_many", "first_clash", "beginning_fault", "fair_line", "_law_pick", "_law_same", "_law_loose", "_law_clash", "_law_beginning_fault", "_law_line"]
abbrev aL : Ann := ⟨["script", "turn", "stream", "bottom", "many", "due", "told", "again", "points", "at", "handed", "fault", "look", "found"], ["points", "found"], [142]⟩
theorem t_is_list : TxtD us Pr "is_list" (top 1) ⟨["thing"], [], []⟩ ["thing"] := ⟨⟨rfl, rfl, rfl, by decide +kernel, rfl, by decide +kernel, by decide +kernel⟩, ⟨rfl, rfl, rfl, rfl⟩, rfl, by decide +kernel, by rfl⟩
theorem t_is_whole : TxtD us Pr "is_whole" (top 2) ⟨["thing"], [], []⟩ ["thing"] := ⟨⟨rfl, rfl, rfl, by decide +kernel, rfl, by decide +kernel, by decide +kernel⟩, ⟨rfl, rfl, rfl, rfl⟩, rfl, by decide +kernel, by rfl⟩
theorem t_is_number : TxtD us Pr "is_number" (top 3) ⟨["thing"], [], []⟩ ["thing"] := ⟨⟨rfl, rfl, rfl, by decide +kernel, rfl, by decide +kernel, by decide +kernel⟩, ⟨rfl, rfl, rfl, rfl⟩, rfl, by decide +kernel, by rfl⟩
theorem t_is_index : TxtD us Pr "is_index" (top 4) ⟨["thing", "many"], [], []⟩ ["thing", "many"] := ⟨⟨rfl, rfl, rfl, by decide +kernel, rfl, by decide +kernel, by decide +kernel⟩, ⟨rfl, rfl, rfl, rfl⟩, rfl, by decide +kernel, by rfl⟩
theorem t_check_bottom : TxtD us Pr "check_bottom" (top 12) ⟨["bottom"], [], []⟩ ["bottom"] := ⟨⟨rfl, rfl, rfl, by decide +kernel, rfl, by decide +kernel, by decide +kernel⟩, ⟨rfl, rfl, rfl, rfl⟩, rfl, by decide +kernel, by rfl⟩
theorem t_check_points : TxtD us Pr "check_points" (top 13) ⟨["bottom", "points", "wrong", "index", "point"], [], []⟩ ["bottom", "points"] := ⟨⟨rfl, rfl, rfl, by decide +kernel, rfl, by decide +kernel, by decide +kernel⟩, ⟨rfl, rfl, rfl, rfl⟩, rfl, by decide +kernel, by rfl⟩
theorem t_check_many : TxtD us Pr "check_many" (top 14) ⟨["many"], [], []⟩ ["many"] := ⟨⟨rfl, rfl, rfl, by decide +kernel, rfl, by decide +kernel, by decide +kernel⟩, ⟨rfl, rfl, rfl, rfl⟩, rfl, by decide +kernel, by rfl⟩
theorem t_first_clash : TxtD us Pr "first_clash" (top 15) ⟨["bottom", "points", "many", "parts", "point", "one", "other"], [], []⟩ ["bottom", "points", "many"] := ⟨⟨rfl, rfl, rfl, by decide +kernel, rfl, by decide +kernel, by decide +kernel⟩, ⟨rfl, rfl, rfl, rfl⟩, rfl, by decide +kernel, by rfl⟩
theorem t_beginning_fault : TxtD us Pr "beginning_fault" (top 16) ⟨["bottom", "points", "many", "pair"], [], []⟩ ["bottom", "points"] := ⟨⟨rfl, rfl, rfl, by decide +kernel, rfl, by decide +kernel, by decide +kernel⟩, ⟨rfl, rfl, rfl, rfl⟩, rfl, by decide +kernel, by rfl⟩
theorem t_fair_line : TxtD us Pr "fair_line" (top 17) ⟨["bottom", "many", "way", "here"], ["way"], []⟩ ["bottom", "many"] := ⟨⟨rfl, rfl, rfl, by decide +kernel, rfl, by decide +kernel, by decide +kernel⟩, ⟨rfl, rfl, rfl, rfl⟩, rfl, by decide +kernel, by rfl⟩
theorem t__law_pick : TxtD us Pr "_law_pick" (top 21) ⟨["stream", "things"], [], []⟩ ["stream", "things"] := ⟨⟨rfl, rfl, rfl, by decide +kernel, rfl, by decide +kernel, by decide +kernel⟩, ⟨rfl, rfl, rfl, rfl⟩, rfl, by decide +kernel, by rfl⟩
theorem t__law_same : TxtD us Pr "_law_same" (top 22) ⟨["found", "due", "mine", "theirs"], [], []⟩ ["found", "due"] := ⟨⟨rfl, rfl, rfl, by decide +kernel, rfl, by decide +kernel, by decide +kernel⟩, ⟨rfl, rfl, rfl, rfl⟩, rfl, by decide +kernel, by rfl⟩
theorem t__law_loose : TxtD us Pr "_law_loose" (top 23) ⟨["stream", "thing", "some", "one"], [], []⟩ ["stream", "thing"] := ⟨⟨rfl, rfl, rfl, by decide +kernel, rfl, by decide +kernel, by decide +kernel⟩, ⟨rfl, rfl, rfl, rfl⟩, rfl, by decide +kernel, by rfl⟩
theorem t__law_clash : TxtD us Pr "_law_clash" (top 25) ⟨["bottom", "points", "many", "one", "other"], [], []⟩ ["bottom", "points", "many"] := ⟨⟨rfl, rfl, rfl, by decide +kernel, rfl, by decide +kernel, by decide +kernel⟩, ⟨rfl, rfl, rfl, rfl⟩, rfl, by decide +kernel, by rfl⟩
theorem t__law_beginning_fault : TxtD us Pr "_law_beginning_fault" (top 26) ⟨["bottom", "points", "many", "pair"], [], []⟩ ["bottom", "points"] := ⟨⟨rfl, rfl, rfl, by decide +kernel, rfl, by decide +kernel, by decide +kernel⟩, ⟨rfl, rfl, rfl, rfl⟩, rfl, by decide +kernel, by rfl⟩
theorem t__law_line : TxtD us Pr "_law_line" (top 27) ⟨["bottom", "many", "ways", "way", "point"], ["ways"], []⟩ ["bottom", "many"] := ⟨⟨rfl, rfl, rfl, by decide +kernel, rfl, by decide +kernel, by decide +kernel⟩, ⟨rfl, rfl, rfl, rfl⟩, rfl, by decide +kernel, by rfl⟩
def restOf (st : Stmt) : List Stmt := match defBody st with
  | .For _ _ b _ _ :: _ => b.drop 1
  | _ => []
theorem law_il : cL us aL 200 (defScope (top 28)) (restOf (top 28)) = lawI := by rfl
theorem all_mk {P : Program} {w : World} {K : PySem.W.Frag} {h : Heap} {mg : Str → Option Value} {fa : Addr} (X : K.In h) (G : h.Ns mainGlobals mg) (hfa : mg "law" = some (.ref fa)) (h_is_list : At K mg "is_list" (top 1)) (h_is_whole : At K mg "is_whole" (top 2)) (h_is_number : At K mg "is_number" (top 3)) (h_is_index : At K mg "is_index" (top 4)) (h_check_bottom : At K mg "check_bottom" (top 12)) (h_check_points : At K mg "check_points" (top 13)) (h_check_many : At K mg "check_many" (top 14)) (h_first_clash : At K mg "first_clash" (top 15)) (h_beginning_fault : At K mg "beginning_fault" (top 16)) (h_fair_line : At K mg "fair_line" (top 17)) (h__law_pick : At K mg "_law_pick" (top 21)) (h__law_same : At K mg "_law_same" (top 22)) (h__law_loose : At K mg "_law_loose" (top 23)) (h__law_clash : At K mg "_law_clash" (top 25)) (h__law_beginning_fault : At K mg "_law_beginning_fault" (top 26)) (h__law_line : At K mg "_law_line" (top 27)) (h__law_stream : At K mg "_law_stream" (top 19)) (h__law_draw : At K mg "_law_draw" (top 20)) (h__law_spoilt : At K mg "_law_spoilt" (top 24)) (h_law : At K mg "law" (top 28))
    (z0 : PySem.W.nsIn K mainGlobals "abs" = some none) (z1 : PySem.W.nsIn K mainGlobals "len" = some none) (z2 : PySem.W.nsIn K mainGlobals "list" = some none) (z3 : PySem.W.nsIn K mainGlobals "tuple" = some none) (z4 : PySem.W.nsIn K mainGlobals "sum" = some none) (z5 : PySem.W.nsIn K mainGlobals "max" = some none) (z6 : PySem.W.nsIn K mainGlobals "min" = some none) (z7 : PySem.W.nsIn K mainGlobals "all" = some none) (z8 : PySem.W.nsIn K mainGlobals "any" = some none) (z9 : PySem.W.nsIn K mainGlobals "sorted" = some none) (z10 : PySem.W.nsIn K mainGlobals "int" = some none) (z11 : PySem.W.nsIn K mainGlobals "repr" = some none) (z12 : PySem.W.nsIn K mainGlobals "dict" = some none) (z13 : PySem.W.nsIn K mainGlobals "bool" = some none) (z14 : PySem.W.nsIn K mainGlobals "str" = some none) (z15 : PySem.W.nsIn K mainGlobals "isinstance" = some none) (z16 : PySem.W.nsIn K mainGlobals "range" = some none) (z17 : PySem.W.nsIn K mainGlobals "zip" = some none) (z18 : PySem.W.nsIn K mainGlobals "enumerate" = some none)
    (law : ∀ (ad : Addr) (ns : List Int) (t : Int), ns.length ≤ 64 → 0 ≤ t → t < (5 : Nat) → ∃ c', exL (callF Pr 30) (sgOf Pr) 1 false lawI ⟨law2R ad t 11, [⟨ns, 0, 0, 19⟩]⟩ = .nx c' ∧ c'.r[0]? = some (.sh Fl.top (.obj ad)) ∧ c'.r.length = 11 + 3) :
    ∃ fd : FuncData, (∀ (s : Shared) (u : Value), BindsTo s fd ⟨[u], []⟩ [("script", u)]) ∧ ∀ base : Heap, K.In base → base.Ns mainGlobals mg → FnG P w K mg base (L2.CX P w) 52 fa fd ["script"] (spLaw K) := by
  have blt : ∀ x ∈ bnames, mg x = none := List.forall_mem_cons.mpr ⟨PySem.W.mg_none_of X G z0, List.forall_mem_cons.mpr ⟨PySem.W.mg_none_of X G z1, List.forall_mem_cons.mpr ⟨PySem.W.mg_none_of X G z2, List.forall_mem_cons.mpr ⟨PySem.W.mg_none_of X G z3, List.forall_mem_cons.mpr ⟨PySem.W.mg_none_of X G z4, List.forall_mem_cons.mpr ⟨PySem.W.mg_none_of X G z5, List.forall_mem_cons.mpr ⟨PySem.W.mg_none_of X G z6, List.forall_mem_cons.mpr ⟨PySem.W.mg_none_of X G z7, List.forall_mem_cons.mpr ⟨PySem.W.mg_none_of X G z8, List.forall_mem_cons.mpr ⟨PySem.W.mg_none_of X G z9, List.forall_mem_cons.mpr ⟨PySem.W.mg_none_of X G z10, List.forall_mem_cons.mpr ⟨PySem.W.mg_none_of X G z11, List.forall_mem_cons.mpr ⟨PySem.W.mg_none_of X G z12, List.forall_mem_cons.mpr ⟨PySem.W.mg_none_of X G z13, List.forall_mem_cons.mpr ⟨PySem.W.mg_none_of X G z14, List.forall_mem_cons.mpr ⟨PySem.W.mg_none_of X G z15, List.forall_mem_cons.mpr ⟨PySem.W.mg_none_of X G z16, List.forall_mem_cons.mpr ⟨PySem.W.mg_none_of X G z17, List.forall_mem_cons.mpr ⟨PySem.W.mg_none_of X G z18, fun _ h => nomatch h⟩⟩⟩⟩⟩⟩⟩⟩⟩⟩⟩⟩⟩⟩⟩⟩⟩⟩⟩
  refine At.law2 (a := aL) (rest := (restOf (top 28))) (N := 5) (q18 := ⟨0, 0, 0, 0⟩) (k := 50) (cl := callF Pr 30) (sg := sgOf Pr) (us := us) (ct := fun _ => none) h_law h__law_stream blt hfa ⟨rfl, rfl, rfl, by decide +kernel, rfl, by decide +kernel, by decide +kernel⟩ ⟨rfl, rfl, rfl, rfl⟩ rfl rfl rfl rfl ⟨rfl, rfl, rfl, by decide +kernel, rfl, by decide +kernel, by decide +kernel⟩ ⟨rfl, rfl, rfl, rfl⟩ rfl rfl rfl (by decide) rfl rfl rfl rfl rfl rfl (fun base _ _ => ?_) (fun ad ns t hl h0 h1 => by rw [law_il]; exact law ad ns t hl h0 h1)
  refine all_env (k0 := 21) blt (by decide +kernel) ?_ ?_ (fun h => absurd h (by decide +kernel)) ?_ 30
  · exact List.forall_mem_cons.mpr ⟨fun z => absurd rfl z, List.forall_mem_cons.mpr ⟨fun _ _ => h_is_list.row t_is_list, List.forall_mem_cons.mpr ⟨fun _ _ => h_is_whole.row t_is_whole, List.forall_mem_cons.mpr ⟨fun _ _ => h_is_number.row t_is_number, List.forall_mem_cons.mpr ⟨fun _ _ => h_is_index.row t_is_index, List.forall_mem_cons.mpr ⟨fun _ _ => h_check_bottom.row t_check_bottom, List.forall_mem_cons.mpr ⟨fun _ _ => h_check_points.row t_check_points, List.forall_mem_cons.mpr ⟨fun _ _ => h_check_many.row t_check_many, List.forall_mem_cons.mpr ⟨fun _ _ => h_first_clash.row t_first_clash, List.forall_mem_cons.mpr ⟨fun _ _ => h_beginning_fault.row t_beginning_fault, List.forall_mem_cons.mpr ⟨fun _ _ => h_fair_line.row t_fair_line, List.forall_mem_cons.mpr ⟨fun _ _ => h__law_pick.row t__law_pick, List.forall_mem_cons.mpr ⟨fun _ _ => h__law_same.row t__law_same, List.forall_mem_cons.mpr ⟨fun _ _ => h__law_loose.row t__law_loose, List.forall_mem_cons.mpr ⟨fun _ _ => h__law_clash.row t__law_clash, List.forall_mem_cons.mpr ⟨fun _ _ => h__law_beginning_fault.row t__law_beginning_fault, List.forall_mem_cons.mpr ⟨fun _ _ => h__law_line.row t__law_line, fun _ h => nomatch h⟩⟩⟩⟩⟩⟩⟩⟩⟩⟩⟩⟩⟩⟩⟩⟩⟩
  · exact h__law_draw.draw rfl ⟨rfl, rfl, rfl, by decide +kernel, rfl, by decide +kernel, by decide +kernel⟩ (by decide +kernel) rfl rfl (blt _ (by decide)) (blt _ (by decide)) ⟨rfl, rfl, rfl, rfl⟩ rfl rfl rfl
  · exact h__law_spoilt.spoils blt ⟨⟨rfl, rfl, rfl, by decide +kernel, rfl, by decide +kernel, by decide +kernel⟩, rfl, rfl, rfl, rfl, rfl, rfl, rfl, ⟨rfl, rfl, rfl, rfl⟩, rfl⟩ rfl rfl
end Lk76
open PySem PySem.W PyProof.Rows
set_option maxHeartbeats 0 in
theorem PySem.Challenge.cw_sidestaken_k76_whole_points_fair_from_th_holds : PySem.Challenge.rw_sidestaken_k76_whole_points_fair_from_th.Holds := by
  w_on; o_law; k_head; (case hw => w_witness2)
  k_fill
  refine Sd.walk_ofG (l := PySem.Challenge.rw_sidestaken_k76_whole_points_fair_from_th) (n := 63) (k := 52) (x := "script") (CX := fun w => L2.CX PySem.Challenge.pw_sidestaken_k76_whole_points_fair_from_th w) (sp := fun w => Sd.spLaw _) rfl (by decide) rfl ⟨⟨rfl, by decide, by decide⟩, rfl⟩ (fun w h Y => PySem.W.kIn_of Y) ?F (fun _ _ a ns hl hS => ⟨a, ns, rfl, hS, hl, fun _ => rfl⟩) (fun _ _ _ _ _ ⟨_, _, _, _, _, _, _, _, _, _, _, _, h⟩ => h)
  case F =>
    intro w mg fa h KX G hmg
    refine' Lk76.all_mk KX G hmg (Sd.at_mk KX G ?a0 ?l0 ?c0 ?k0) (Sd.at_mk KX G ?a1 ?l1 ?c1 ?k1) (Sd.at_mk KX G ?a2 ?l2 ?c2 ?k2) (Sd.at_mk KX G ?a3 ?l3 ?c3 ?k3) (Sd.at_mk KX G ?a4 ?l4 ?c4 ?k4) (Sd.at_mk KX G ?a5 ?l5 ?c5 ?k5) (Sd.at_mk KX G ?a6 ?l6 ?c6 ?k6) (Sd.at_mk KX G ?a7 ?l7 ?c7 ?k7) (Sd.at_mk KX G ?a8 ?l8 ?c8 ?k8) (Sd.at_mk KX G ?a9 ?l9 ?c9 ?k9) (Sd.at_mk KX G ?a10 ?l10 ?c10 ?k10) (Sd.at_mk KX G ?a11 ?l11 ?c11 ?k11) (Sd.at_mk KX G ?a12 ?l12 ?c12 ?k12) (Sd.at_mk KX G ?a13 ?l13 ?c13 ?k13) (Sd.at_mk KX G ?a14 ?l14 ?c14 ?k14) (Sd.at_mk KX G ?a15 ?l15 ?c15 ?k15) (Sd.at_mk KX G ?a16 ?l16 ?c16 ?k16) (Sd.at_mk KX G ?a17 ?l17 ?c17 ?k17) (Sd.at_mk KX G ?a18 ?l18 ?c18 ?k18) (Sd.at_mk KX G ?a19 ?l19 ?c19 ?k19) ?z0 ?z1 ?z2 ?z3 ?z4 ?z5 ?z6 ?z7 ?z8 ?z9 ?z10 ?z11 ?z12 ?z13 ?z14 ?z15 ?z16 ?z17 ?z18 Lk76.law_ok
    (case a0 => k_is); (case l0 => k_is); (case c0 => k_is); (case k0 => k_is); (case a1 => k_is); (case l1 => k_is); (case c1 => k_is); (case k1 => k_is); (case a2 => k_is); (case l2 => k_is); (case c2 => k_is); (case k2 => k_is); (case a3 => k_is); (case l3 => k_is); (case c3 => k_is); (case k3 => k_is); (case a4 => k_is); (case l4 => k_is); (case c4 => k_is); (case k4 => k_is); (case a5 => k_is); (case l5 => k_is); (case c5 => k_is); (case k5 => k_is); (case a6 => k_is); (case l6 => k_is); (case c6 => k_is); (case k6 => k_is); (case a7 => k_is); (case l7 => k_is); (case c7 => k_is); (case k7 => k_is); (case a8 => k_is); (case l8 => k_is); (case c8 => k_is); (case k8 => k_is); (case a9 => k_is); (case l9 => k_is); (case c9 => k_is); (case k9 => k_is); (case a10 => k_is); (case l10 => k_is); (case c10 => k_is); (case k10 => k_is); (case a11 => k_is); (case l11 => k_is); (case c11 => k_is); (case k11 => k_is); (case a12 => k_is); (case l12 => k_is); (case c12 => k_is); (case k12 => k_is); (case a13 => k_is); (case l13 => k_is); (case c13 => k_is); (case k13 => k_is); (case a14 => k_is); (case l14 => k_is); (case c14 => k_is); (case k14 => k_is); (case a15 => k_is); (case l15 => k_is); (case c15 => k_is); (case k15 => k_is); (case a16 => k_is); (case l16 => k_is); (case c16 => k_is); (case k16 => k_is); (case a17 => k_is); (case l17 => k_is); (case c17 => k_is); (case k17 => k_is); (case a18 => k_is); (case l18 => k_is); (case c18 => k_is); (case k18 => k_is); (case a19 => k_is); (case l19 => k_is); (case c19 => k_is); (case k19 => k_is); (case z0 => k_is); (case z1 => k_is); (case z2 => k_is); (case z3 => k_is); (case z4 => k_is); (case z5 => k_is); (case z6 => k_is); (case z7 => k_is); (case z8 => k_is); (case z9 => k_is); (case z10 => k_is); (case z11 => k_is); (case z12 => k_is); (case z13 => k_is); (case z14 => k_is); (case z15 => k_is); (case z16 => k_is); (case z17 => k_is); (case z18 => k_is)

