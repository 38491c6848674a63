/- A machine of values for loaded Go functions, sound for the calculus of calls; part 4; no conditions. -/
import Derived.Test.YtmfpaflnapgfnaaMc
set_option linter.unusedSectionVars false
set_option linter.unusedVariables false
set_option linter.unusedSimpArgs false
namespace M
open Go
def maxI : Nat := 9223372036854775807
def wS (s : Str) : Nat := s.length
def wO {α : Type} (_ : α) : Nat := 0
def wL {α : Type} (w : α → Nat) (l : List α) : Nat := l.length + (l.map w).sum
theorem wL_mem {α : Type} {w : α → Nat} : ∀ {l : List α} {a : α}, a ∈ l → w a ≤ wL w l
  | b :: l, a, h => by
    rcases List.mem_cons.1 h with rfl | h
    · simp [wL]; omega
    · have := wL_mem (w := w) h
      simp [wL] at this ⊢; omega
theorem wL_len {α : Type} {w : α → Nat} (l : List α) : l.length ≤ wL w l := by unfold wL; omega
def subW (n : Int) (w : Nat) : Int := if (w : Int) ≤ n then n - w else -1
theorem subW_or (n : Int) (w : Nat) : ((w : Int) ≤ n ∧ subW n w = n - w) ∨ (n < (w : Int) ∧ subW n w = -1) := by
  unfold subW
  split
  · exact .inl ⟨by assumption, rfl⟩
  · exact .inr ⟨by omega, rfl⟩
theorem subW_le (w : Nat) (n : Int) : subW n w ≤ n ∨ subW n w < 0 := by have := subW_or n w; omega
theorem szL_subW {α : Type} (w : α → Nat) : ∀ (l : List α) (n : Int), 0 ≤ n → szL (fun b n => subW n (w b)) l n = subW n (l.map w).sum
  | [], n, h => by simp [szL, subW, h]
  | b :: l, n, h => by
    simp only [szL, List.map_cons, List.sum_cons]
    rcases subW_or n (w b) with ⟨h1, h2⟩ | ⟨h1, h2⟩
    · rw [if_neg (by omega), szL_subW w l _ (by omega), h2]
      rcases subW_or (n - w b) (l.map w).sum with ⟨h3, h4⟩ | ⟨h3, h4⟩ <;> rcases subW_or n (w b + (l.map w).sum) with ⟨h5, h6⟩ | ⟨h5, h6⟩ <;> omega
    · rw [if_pos (by omega)]
      rcases subW_or n (w b + (l.map w).sum) with ⟨h5, h6⟩ | ⟨h5, h6⟩ <;> omega
def bI (n : Int) : Prop := -9223372036854775808 ≤ n ∧ n ≤ 9223372036854775807
def bS (s : Str) : Prop := s.length ≤ 9223372036854775807
def bB (_ : Bool) : Prop := True
def bL {α : Type} (b : α → Prop) (l : List α) : Prop := l.length ≤ 9223372036854775807 ∧ ∀ a ∈ l, b a
@[simp] def eI (n : Int) : List X := [.int .i64 n]
@[simp] theorem mdLL_eI (m : Md) (l : List Int) : X.mdLL m (l.map eI) = l.map eI := by induction l <;> simp_all [X.mdLL, X.mdL, X.md]
@[simp] theorem clean_eI (l : List Int) : X.clean.cleanLL (l.map eI) = true := by induction l <;> simp_all [X.clean.cleanLL, X.clean.cleanL, X.clean]
theorem confL_nil {r : List X} (h : ConfL [] r) : r = [] := h.nil

structure Fld where
  name : Str
  value : Str
  deriving DecidableEq
@[simp] def eFld (a : Fld) : List X := [.str ⟨(a.name).toArray⟩, .str ⟨(a.value).toArray⟩]
@[simp] theorem mdLL_eFld (m : Md) (l : List Fld) : X.mdLL m (l.map eFld) = l.map eFld := by induction l <;> simp_all [X.mdLL, X.mdL, X.md]
@[simp] theorem clean_eFld (l : List Fld) : X.clean.cleanLL (l.map eFld) = true := by induction l <;> simp_all [X.clean.cleanLL, X.clean.cleanL, X.clean]
def wFld (a : Fld) : Nat := a.name.length + a.value.length
structure bFld (x : Fld) : Prop where
  k_name : bS x.name
  k_value : bS x.value
theorem dec_Fld (a b : Fld) : decide (a = b) = (decide (a.name = b.name) && decide (a.value = b.value)) := by
  cases a; cases b; simp [Bool.and_assoc]
structure Rsp where
  status : Int
  fields : List Fld
  body : Str
  deriving DecidableEq
@[simp] def eRsp (m : Md) (a : Rsp) : List X := [.int .i64 a.status, .row m 2 ((a.fields).map eFld), .str ⟨(a.body).toArray⟩]
@[simp] theorem mdLL_eRsp (m m' : Md) (l : List Rsp) : X.mdLL m (l.map (eRsp m')) = l.map (eRsp m) := by induction l <;> simp_all [X.mdLL, X.mdL, X.md]
@[simp] theorem clean_eRsp (l : List Rsp) : X.clean.cleanLL (l.map (eRsp .own)) = true := by induction l <;> simp_all [X.clean.cleanLL, X.clean.cleanL, X.clean]
@[simp] theorem cleans_eRsp (l : List Rsp) : X.clean.cleanLL (l.map (eRsp .sl)) = true := by induction l <;> simp_all [X.clean.cleanLL, X.clean.cleanL, X.clean]
def wRsp (a : Rsp) : Nat := wL wFld a.fields + a.body.length
structure bRsp (x : Rsp) : Prop where
  k_status : bI x.status
  k_fields : (bL bFld) x.fields
  k_body : bS x.body
theorem dec_Rsp (a b : Rsp) : decide (a = b) = (decide (a.status = b.status) && decide (a.fields = b.fields) && decide (a.body = b.body)) := by
  cases a; cases b; simp [Bool.and_assoc]
structure Rq where
  method : Int
  path : Str
  fields : List Fld
  body : Str
  deriving DecidableEq
@[simp] def eRq (m : Md) (a : Rq) : List X := [.int .i64 a.method, .str ⟨(a.path).toArray⟩, .row m 2 ((a.fields).map eFld), .str ⟨(a.body).toArray⟩]
@[simp] theorem mdLL_eRq (m m' : Md) (l : List Rq) : X.mdLL m (l.map (eRq m')) = l.map (eRq m) := by induction l <;> simp_all [X.mdLL, X.mdL, X.md]
@[simp] theorem clean_eRq (l : List Rq) : X.clean.cleanLL (l.map (eRq .own)) = true := by induction l <;> simp_all [X.clean.cleanLL, X.clean.cleanL, X.clean]
@[simp] theorem cleans_eRq (l : List Rq) : X.clean.cleanLL (l.map (eRq .sl)) = true := by induction l <;> simp_all [X.clean.cleanLL, X.clean.cleanL, X.clean]
def wRq (a : Rq) : Nat := a.path.length + wL wFld a.fields + a.body.length
structure bRq (x : Rq) : Prop where
  k_method : bI x.method
  k_path : bS x.path
  k_fields : (bL bFld) x.fields
  k_body : bS x.body
theorem dec_Rq (a b : Rq) : decide (a = b) = (decide (a.method = b.method) && decide (a.path = b.path) && decide (a.fields = b.fields) && decide (a.body = b.body)) := by
  cases a; cases b; simp [Bool.and_assoc]
structure Ob where
  path : Str
  names : List Str
  values : List Str
  resp : Rsp
  t : Int
  deriving DecidableEq
@[simp] def eOb (m : Md) (a : Ob) : List X := [.str ⟨(a.path).toArray⟩, .row m 1 ((a.names).map eS), .row m 1 ((a.values).map eS), .int .i64 a.resp.status, .row m 2 ((a.resp.fields).map eFld), .str ⟨(a.resp.body).toArray⟩, .int .i64 a.t]
@[simp] theorem mdLL_eOb (m m' : Md) (l : List Ob) : X.mdLL m (l.map (eOb m')) = l.map (eOb m) := by induction l <;> simp_all [X.mdLL, X.mdL, X.md]
@[simp] theorem clean_eOb (l : List Ob) : X.clean.cleanLL (l.map (eOb .own)) = true := by induction l <;> simp_all [X.clean.cleanLL, X.clean.cleanL, X.clean]
@[simp] theorem cleans_eOb (l : List Ob) : X.clean.cleanLL (l.map (eOb .sl)) = true := by induction l <;> simp_all [X.clean.cleanLL, X.clean.cleanL, X.clean]
def wOb (a : Ob) : Nat := a.path.length + wL wS a.names + wL wS a.values + wRsp a.resp
structure bOb (x : Ob) : Prop where
  k_path : bS x.path
  k_names : (bL bS) x.names
  k_values : (bL bS) x.values
  k_resp : bRsp x.resp
  k_t : bI x.t
theorem dec_Ob (a b : Ob) : decide (a = b) = (decide (a.path = b.path) && decide (a.names = b.names) && decide (a.values = b.values) && decide (a.resp = b.resp) && decide (a.t = b.t)) := by
  cases a; cases b; simp [Bool.and_assoc]
structure Kp where
  obj : Ob
  at_ : Int
  seq : Int
  deriving DecidableEq
@[simp] def eKp (m : Md) (a : Kp) : List X := [.str ⟨(a.obj.path).toArray⟩, .row m 1 ((a.obj.names).map eS), .row m 1 ((a.obj.values).map eS), .int .i64 a.obj.resp.status, .row m 2 ((a.obj.resp.fields).map eFld), .str ⟨(a.obj.resp.body).toArray⟩, .int .i64 a.obj.t, .int .i64 a.at_, .int .i64 a.seq]
@[simp] theorem mdLL_eKp (m m' : Md) (l : List Kp) : X.mdLL m (l.map (eKp m')) = l.map (eKp m) := by induction l <;> simp_all [X.mdLL, X.mdL, X.md]
@[simp] theorem clean_eKp (l : List Kp) : X.clean.cleanLL (l.map (eKp .own)) = true := by induction l <;> simp_all [X.clean.cleanLL, X.clean.cleanL, X.clean]
@[simp] theorem cleans_eKp (l : List Kp) : X.clean.cleanLL (l.map (eKp .sl)) = true := by induction l <;> simp_all [X.clean.cleanLL, X.clean.cleanL, X.clean]
def wKp (a : Kp) : Nat := wOb a.obj
structure bKp (x : Kp) : Prop where
  k_obj : bOb x.obj
  k_at_ : bI x.at_
  k_seq : bI x.seq
theorem dec_Kp (a b : Kp) : decide (a = b) = (decide (a.obj = b.obj) && decide (a.at_ = b.at_) && decide (a.seq = b.seq)) := by
  cases a; cases b; simp [Bool.and_assoc]
def wWr (a : Wr) : Nat := a.text.length
structure bWr (x : Wr) : Prop where
  k_at_ : bI x.at_
  k_text : bS x.text
theorem dec_Wr (a b : Wr) : decide (a = b) = (decide (a.at_ = b.at_) && decide (a.text = b.text)) := by
  cases a; cases b; simp [Bool.and_assoc]
def wDsk (a : Dsk) : Nat := wL wS a.cells + wL wWr a.pending
structure bDsk (x : Dsk) : Prop where
  k_cells : (bL bS) x.cells
  k_pending : (bL bWr) x.pending
theorem dec_Dsk (a b : Dsk) : decide (a = b) = (decide (a.cells = b.cells) && decide (a.pending = b.pending)) := by
  cases a; cases b; simp [Bool.and_assoc]
structure Bn where
  kind : Int
  a : Str
  b : Str
  t : Int
  deriving DecidableEq
@[simp] def eBn (a : Bn) : List X := [.int .i64 a.kind, .str ⟨(a.a).toArray⟩, .str ⟨(a.b).toArray⟩, .int .i64 a.t]
@[simp] theorem mdLL_eBn (m : Md) (l : List Bn) : X.mdLL m (l.map eBn) = l.map eBn := by induction l <;> simp_all [X.mdLL, X.mdL, X.md]
@[simp] theorem clean_eBn (l : List Bn) : X.clean.cleanLL (l.map eBn) = true := by induction l <;> simp_all [X.clean.cleanLL, X.clean.cleanL, X.clean]
def wBn (a : Bn) : Nat := a.a.length + a.b.length
structure bBn (x : Bn) : Prop where
  k_kind : bI x.kind
  k_a : bS x.a
  k_b : bS x.b
  k_t : bI x.t
theorem dec_Bn (a b : Bn) : decide (a = b) = (decide (a.kind = b.kind) && decide (a.a = b.a) && decide (a.b = b.b) && decide (a.t = b.t)) := by
  cases a; cases b; simp [Bool.and_assoc]
structure Sh where
  disk : Dsk
  objs : List Kp
  bans : List Bn
  next : Int
  seq : Int
  deriving DecidableEq
@[simp] def eSh (m : Md) (a : Sh) : List X := [.row m 1 ((a.disk.cells).map eS), .row m 2 ((a.disk.pending).map eW), .row m 9 ((a.objs).map (eKp m)), .row m 4 ((a.bans).map eBn), .int .i64 a.next, .int .i64 a.seq]
@[simp] theorem mdLL_eSh (m m' : Md) (l : List Sh) : X.mdLL m (l.map (eSh m')) = l.map (eSh m) := by induction l <;> simp_all [X.mdLL, X.mdL, X.md]
@[simp] theorem clean_eSh (l : List Sh) : X.clean.cleanLL (l.map (eSh .own)) = true := by induction l <;> simp_all [X.clean.cleanLL, X.clean.cleanL, X.clean]
@[simp] theorem cleans_eSh (l : List Sh) : X.clean.cleanLL (l.map (eSh .sl)) = true := by induction l <;> simp_all [X.clean.cleanLL, X.clean.cleanL, X.clean]
def wSh (a : Sh) : Nat := wDsk a.disk + wL wKp a.objs + wL wBn a.bans
structure bSh (x : Sh) : Prop where
  k_disk : bDsk x.disk
  k_objs : (bL bKp) x.objs
  k_bans : (bL bBn) x.bans
  k_next : bI x.next
  k_seq : bI x.seq
theorem dec_Sh (a b : Sh) : decide (a = b) = (decide (a.disk = b.disk) && decide (a.objs = b.objs) && decide (a.bans = b.bans) && decide (a.next = b.next) && decide (a.seq = b.seq)) := by
  cases a; cases b; simp [Bool.and_assoc]
structure Fl where
  q : Rq
  who : List Int
  old : Ob
  hasOld : Bool
  deriving DecidableEq
@[simp] def eFl (m : Md) (a : Fl) : List X := [.int .i64 a.q.method, .str ⟨(a.q.path).toArray⟩, .row m 2 ((a.q.fields).map eFld), .str ⟨(a.q.body).toArray⟩, .row m 1 ((a.who).map eI), .str ⟨(a.old.path).toArray⟩, .row m 1 ((a.old.names).map eS), .row m 1 ((a.old.values).map eS), .int .i64 a.old.resp.status, .row m 2 ((a.old.resp.fields).map eFld), .str ⟨(a.old.resp.body).toArray⟩, .int .i64 a.old.t, .bool a.hasOld]
@[simp] theorem mdLL_eFl (m m' : Md) (l : List Fl) : X.mdLL m (l.map (eFl m')) = l.map (eFl m) := by induction l <;> simp_all [X.mdLL, X.mdL, X.md]
@[simp] theorem clean_eFl (l : List Fl) : X.clean.cleanLL (l.map (eFl .own)) = true := by induction l <;> simp_all [X.clean.cleanLL, X.clean.cleanL, X.clean]
@[simp] theorem cleans_eFl (l : List Fl) : X.clean.cleanLL (l.map (eFl .sl)) = true := by induction l <;> simp_all [X.clean.cleanLL, X.clean.cleanL, X.clean]
def wFl (a : Fl) : Nat := wRq a.q + wL wO a.who + wOb a.old
structure bFl (x : Fl) : Prop where
  k_q : bRq x.q
  k_who : (bL bI) x.who
  k_old : bOb x.old
  k_hasOld : bB x.hasOld
theorem dec_Fl (a b : Fl) : decide (a = b) = (decide (a.q = b.q) && decide (a.who = b.who) && decide (a.old = b.old) && decide (a.hasOld = b.hasOld)) := by
  cases a; cases b; simp [Bool.and_assoc]
structure Se where
  q : Rq
  resp : Rsp
  t : Int
  deriving DecidableEq
@[simp] def eSe (m : Md) (a : Se) : List X := [.int .i64 a.q.method, .str ⟨(a.q.path).toArray⟩, .row m 2 ((a.q.fields).map eFld), .str ⟨(a.q.body).toArray⟩, .int .i64 a.resp.status, .row m 2 ((a.resp.fields).map eFld), .str ⟨(a.resp.body).toArray⟩, .int .i64 a.t]
@[simp] theorem mdLL_eSe (m m' : Md) (l : List Se) : X.mdLL m (l.map (eSe m')) = l.map (eSe m) := by induction l <;> simp_all [X.mdLL, X.mdL, X.md]
@[simp] theorem clean_eSe (l : List Se) : X.clean.cleanLL (l.map (eSe .own)) = true := by induction l <;> simp_all [X.clean.cleanLL, X.clean.cleanL, X.clean]
@[simp] theorem cleans_eSe (l : List Se) : X.clean.cleanLL (l.map (eSe .sl)) = true := by induction l <;> simp_all [X.clean.cleanLL, X.clean.cleanL, X.clean]
def wSe (a : Se) : Nat := wRq a.q + wRsp a.resp
structure bSe (x : Se) : Prop where
  k_q : bRq x.q
  k_resp : bRsp x.resp
  k_t : bI x.t
theorem dec_Se (a b : Se) : decide (a = b) = (decide (a.q = b.q) && decide (a.resp = b.resp) && decide (a.t = b.t)) := by
  cases a; cases b; simp [Bool.and_assoc]
structure Rp where
  client : Int
  q : Rq
  resp : Rsp
  kind : Int
  t : Int
  obj : Ob
  bans : Int
  deriving DecidableEq
@[simp] def eRp (m : Md) (a : Rp) : List X := [.int .i64 a.client, .int .i64 a.q.method, .str ⟨(a.q.path).toArray⟩, .row m 2 ((a.q.fields).map eFld), .str ⟨(a.q.body).toArray⟩, .int .i64 a.resp.status, .row m 2 ((a.resp.fields).map eFld), .str ⟨(a.resp.body).toArray⟩, .int .i64 a.kind, .int .i64 a.t, .str ⟨(a.obj.path).toArray⟩, .row m 1 ((a.obj.names).map eS), .row m 1 ((a.obj.values).map eS), .int .i64 a.obj.resp.status, .row m 2 ((a.obj.resp.fields).map eFld), .str ⟨(a.obj.resp.body).toArray⟩, .int .i64 a.obj.t, .int .i64 a.bans]
@[simp] theorem mdLL_eRp (m m' : Md) (l : List Rp) : X.mdLL m (l.map (eRp m')) = l.map (eRp m) := by induction l <;> simp_all [X.mdLL, X.mdL, X.md]
@[simp] theorem clean_eRp (l : List Rp) : X.clean.cleanLL (l.map (eRp .own)) = true := by induction l <;> simp_all [X.clean.cleanLL, X.clean.cleanL, X.clean]
@[simp] theorem cleans_eRp (l : List Rp) : X.clean.cleanLL (l.map (eRp .sl)) = true := by induction l <;> simp_all [X.clean.cleanLL, X.clean.cleanL, X.clean]
def wRp (a : Rp) : Nat := wRq a.q + wRsp a.resp + wOb a.obj
structure bRp (x : Rp) : Prop where
  k_client : bI x.client
  k_q : bRq x.q
  k_resp : bRsp x.resp
  k_kind : bI x.kind
  k_t : bI x.t
  k_obj : bOb x.obj
  k_bans : bI x.bans
theorem dec_Rp (a b : Rp) : decide (a = b) = (decide (a.client = b.client) && decide (a.q = b.q) && decide (a.resp = b.resp) && decide (a.kind = b.kind) && decide (a.t = b.t) && decide (a.obj = b.obj) && decide (a.bans = b.bans)) := by
  cases a; cases b; simp [Bool.and_assoc]
structure Ca where
  shelf : Sh
  flights : List Fl
  now : Int
  seen : List Se
  sent : List Rp
  deriving DecidableEq
@[simp] def eCa (m : Md) (a : Ca) : List X := [.row m 1 ((a.shelf.disk.cells).map eS), .row m 2 ((a.shelf.disk.pending).map eW), .row m 9 ((a.shelf.objs).map (eKp m)), .row m 4 ((a.shelf.bans).map eBn), .int .i64 a.shelf.next, .int .i64 a.shelf.seq, .row m 13 ((a.flights).map (eFl m)), .int .i64 a.now, .row m 8 ((a.seen).map (eSe m)), .row m 18 ((a.sent).map (eRp m))]
@[simp] theorem mdLL_eCa (m m' : Md) (l : List Ca) : X.mdLL m (l.map (eCa m')) = l.map (eCa m) := by induction l <;> simp_all [X.mdLL, X.mdL, X.md]
@[simp] theorem clean_eCa (l : List Ca) : X.clean.cleanLL (l.map (eCa .own)) = true := by induction l <;> simp_all [X.clean.cleanLL, X.clean.cleanL, X.clean]
@[simp] theorem cleans_eCa (l : List Ca) : X.clean.cleanLL (l.map (eCa .sl)) = true := by induction l <;> simp_all [X.clean.cleanLL, X.clean.cleanL, X.clean]
def wCa (a : Ca) : Nat := wSh a.shelf + wL wFl a.flights + wL wSe a.seen + wL wRp a.sent
structure bCa (x : Ca) : Prop where
  k_shelf : bSh x.shelf
  k_flights : (bL bFl) x.flights
  k_now : bI x.now
  k_seen : (bL bSe) x.seen
  k_sent : (bL bRp) x.sent
theorem dec_Ca (a b : Ca) : decide (a = b) = (decide (a.shelf = b.shelf) && decide (a.flights = b.flights) && decide (a.now = b.now) && decide (a.seen = b.seen) && decide (a.sent = b.sent)) := by
  cases a; cases b; simp [Bool.and_assoc]
def tFld : List Ty := [.str, .str]
theorem confL_Fld {ts : List Ty} {l : List X} (h : ConfL ([.str, .str] ++ ts) l) : ∃ (a : Fld) (l' : List X), l = eFld a ++ l' ∧ bFld a ∧ ConfL ts l' := by
  simp only [List.cons_append, List.nil_append] at h
  obtain ⟨y1, r1, rfl, c1, h1⟩ := h.cons
  obtain ⟨a1, rfl, b1⟩ := conf_str c1
  obtain ⟨y2, r2, rfl, c2, h2⟩ := h1.cons
  obtain ⟨a2, rfl, b2⟩ := conf_str c2
  exact ⟨⟨a1, a2⟩, r2, by simp, ⟨b1, b2⟩, h2⟩
theorem conf_Fld {x : X} (h : ConfA (.agg tFld) x) : ∃ a, x = .agg (eFld a) ∧ bFld a := by
  obtain ⟨l, rfl, hl⟩ := confA_agg h
  obtain ⟨a, l', rfl, h1, h2⟩ := confL_Fld (ts := []) (l := l) (by rw [List.append_nil]; exact hl)
  obtain rfl := h2.nil
  exact ⟨a, by simp, h1⟩
def tRsp : List Ty := [.int .i64, .row [.str, .str], .str]
theorem confL_Rsp {ts : List Ty} {l : List X} (h : ConfL ([.int .i64, .row [.str, .str], .str] ++ ts) l) : ∃ (a : Rsp) (l' : List X), l = eRsp .sl a ++ l' ∧ bRsp a ∧ ConfL ts l' := by
  simp only [List.cons_append, List.nil_append] at h
  obtain ⟨y1, r1, rfl, c1, h1⟩ := h.cons
  obtain ⟨a1, rfl, b1⟩ := conf_int c1
  obtain ⟨y2, r2, rfl, c2, h2⟩ := h1.cons
  obtain ⟨a2, rfl, b2⟩ := conf_row eFld bFld c2 fun r hr => by
    obtain ⟨a, l', rfl, h1, h2⟩ := confL_Fld (ts := []) (by simpa using hr)
    obtain rfl := h2.nil
    exact ⟨a, by simp, h1⟩
  obtain ⟨y3, r3, rfl, c3, h3⟩ := h2.cons
  obtain ⟨a3, rfl, b3⟩ := conf_str c3
  exact ⟨⟨a1, a2, a3⟩, r3, by simp, ⟨b1, b2, b3⟩, h3⟩
theorem conf_Rsp {x : X} (h : ConfA (.agg tRsp) x) : ∃ a, x = .agg (eRsp .sl a) ∧ bRsp a := by
  obtain ⟨l, rfl, hl⟩ := confA_agg h
  obtain ⟨a, l', rfl, h1, h2⟩ := confL_Rsp (ts := []) (l := l) (by rw [List.append_nil]; exact hl)
  obtain rfl := h2.nil
  exact ⟨a, by simp, h1⟩
def tRq : List Ty := [.int .i64, .str, .row [.str, .str], .str]
theorem confL_Rq {ts : List Ty} {l : List X} (h : ConfL ([.int .i64, .str, .row [.str, .str], .str] ++ ts) l) : ∃ (a : Rq) (l' : List X), l = eRq .sl a ++ l' ∧ bRq a ∧ ConfL ts l' := by
  simp only [List.cons_append, List.nil_append] at h
  obtain ⟨y1, r1, rfl, c1, h1⟩ := h.cons
  obtain ⟨a1, rfl, b1⟩ := conf_int c1
  obtain ⟨y2, r2, rfl, c2, h2⟩ := h1.cons
  obtain ⟨a2, rfl, b2⟩ := conf_str c2
  obtain ⟨y3, r3, rfl, c3, h3⟩ := h2.cons
  obtain ⟨a3, rfl, b3⟩ := conf_row eFld bFld c3 fun r hr => by
    obtain ⟨a, l', rfl, h1, h2⟩ := confL_Fld (ts := []) (by simpa using hr)
    obtain rfl := h2.nil
    exact ⟨a, by simp, h1⟩
  obtain ⟨y4, r4, rfl, c4, h4⟩ := h3.cons
  obtain ⟨a4, rfl, b4⟩ := conf_str c4
  exact ⟨⟨a1, a2, a3, a4⟩, r4, by simp, ⟨b1, b2, b3, b4⟩, h4⟩
theorem conf_Rq {x : X} (h : ConfA (.agg tRq) x) : ∃ a, x = .agg (eRq .sl a) ∧ bRq a := by
  obtain ⟨l, rfl, hl⟩ := confA_agg h
  obtain ⟨a, l', rfl, h1, h2⟩ := confL_Rq (ts := []) (l := l) (by rw [List.append_nil]; exact hl)
  obtain rfl := h2.nil
  exact ⟨a, by simp, h1⟩
def tOb : List Ty := [.str, .row [.str], .row [.str], .int .i64, .row [.str, .str], .str, .int .i64]
theorem confL_Ob {ts : List Ty} {l : List X} (h : ConfL ([.str, .row [.str], .row [.str], .int .i64, .row [.str, .str], .str, .int .i64] ++ ts) l) : ∃ (a : Ob) (l' : List X), l = eOb .sl a ++ l' ∧ bOb a ∧ ConfL ts l' := by
  simp only [List.cons_append, List.nil_append] at h
  obtain ⟨y1, r1, rfl, c1, h1⟩ := h.cons
  obtain ⟨a1, rfl, b1⟩ := conf_str c1
  obtain ⟨y2, r2, rfl, c2, h2⟩ := h1.cons
  obtain ⟨a2, rfl, b2⟩ := conf_row eS bS c2 fun r hr => by
    obtain ⟨x, r', rfl, h1, h2⟩ := hr.cons
    obtain rfl := h2.nil
    obtain ⟨s, rfl, hs⟩ := conf_str h1
    exact ⟨s, rfl, hs⟩
  obtain ⟨y3, r3, rfl, c3, h3⟩ := h2.cons
  obtain ⟨a3, rfl, b3⟩ := conf_row eS bS c3 fun r hr => by
    obtain ⟨x, r', rfl, h1, h2⟩ := hr.cons
    obtain rfl := h2.nil
    obtain ⟨s, rfl, hs⟩ := conf_str h1
    exact ⟨s, rfl, hs⟩
  obtain ⟨a4, r4, rfl, b4, h4⟩ := confL_Rsp (ts := _) h3
  obtain ⟨y5, r5, rfl, c5, h5⟩ := h4.cons
  obtain ⟨a5, rfl, b5⟩ := conf_int c5
  exact ⟨⟨a1, a2, a3, a4, a5⟩, r5, by simp, ⟨b1, b2, b3, b4, b5⟩, h5⟩
theorem conf_Ob {x : X} (h : ConfA (.agg tOb) x) : ∃ a, x = .agg (eOb .sl a) ∧ bOb a := by
  obtain ⟨l, rfl, hl⟩ := confA_agg h
  obtain ⟨a, l', rfl, h1, h2⟩ := confL_Ob (ts := []) (l := l) (by rw [List.append_nil]; exact hl)
  obtain rfl := h2.nil
  exact ⟨a, by simp, h1⟩
def tKp : List Ty := [.str, .row [.str], .row [.str], .int .i64, .row [.str, .str], .str, .int .i64, .int .i64, .int .i64]
theorem confL_Kp {ts : List Ty} {l : List X} (h : ConfL ([.str, .row [.str], .row [.str], .int .i64, .row [.str, .str], .str, .int .i64, .int .i64, .int .i64] ++ ts) l) : ∃ (a : Kp) (l' : List X), l = eKp .sl a ++ l' ∧ bKp a ∧ ConfL ts l' := by
  simp only [List.cons_append, List.nil_append] at h
  obtain ⟨a1, r1, rfl, b1, h1⟩ := confL_Ob (ts := _) h
  obtain ⟨y2, r2, rfl, c2, h2⟩ := h1.cons
  obtain ⟨a2, rfl, b2⟩ := conf_int c2
  obtain ⟨y3, r3, rfl, c3, h3⟩ := h2.cons
  obtain ⟨a3, rfl, b3⟩ := conf_int c3
  exact ⟨⟨a1, a2, a3⟩, r3, by simp, ⟨b1, b2, b3⟩, h3⟩
theorem conf_Kp {x : X} (h : ConfA (.agg tKp) x) : ∃ a, x = .agg (eKp .sl a) ∧ bKp a := by
  obtain ⟨l, rfl, hl⟩ := confA_agg h
  obtain ⟨a, l', rfl, h1, h2⟩ := confL_Kp (ts := []) (l := l) (by rw [List.append_nil]; exact hl)
  obtain rfl := h2.nil
  exact ⟨a, by simp, h1⟩
def tWr : List Ty := [.int .i64, .str]
theorem confL_Wr {ts : List Ty} {l : List X} (h : ConfL ([.int .i64, .str] ++ ts) l) : ∃ (a : Wr) (l' : List X), l = eW a ++ l' ∧ bWr a ∧ ConfL ts l' := by
  simp only [List.cons_append, List.nil_append] at h
  obtain ⟨y1, r1, rfl, c1, h1⟩ := h.cons
  obtain ⟨a1, rfl, b1⟩ := conf_int c1
  obtain ⟨y2, r2, rfl, c2, h2⟩ := h1.cons
  obtain ⟨a2, rfl, b2⟩ := conf_str c2
  exact ⟨⟨a1, a2⟩, r2, by simp, ⟨b1, b2⟩, h2⟩
theorem conf_Wr {x : X} (h : ConfA (.agg tWr) x) : ∃ a, x = .agg (eW a) ∧ bWr a := by
  obtain ⟨l, rfl, hl⟩ := confA_agg h
  obtain ⟨a, l', rfl, h1, h2⟩ := confL_Wr (ts := []) (l := l) (by rw [List.append_nil]; exact hl)
  obtain rfl := h2.nil
  exact ⟨a, by simp, h1⟩
def tDsk : List Ty := [.row [.str], .row [.int .i64, .str]]
theorem confL_Dsk {ts : List Ty} {l : List X} (h : ConfL ([.row [.str], .row [.int .i64, .str]] ++ ts) l) : ∃ (a : Dsk) (l' : List X), l = eDsk .sl a ++ l' ∧ bDsk a ∧ ConfL ts l' := by
  simp only [List.cons_append, List.nil_append] at h
  obtain ⟨y1, r1, rfl, c1, h1⟩ := h.cons
  obtain ⟨a1, rfl, b1⟩ := conf_row eS bS c1 fun r hr => by
    obtain ⟨x, r', rfl, h1, h2⟩ := hr.cons
    obtain rfl := h2.nil
    obtain ⟨s, rfl, hs⟩ := conf_str h1
    exact ⟨s, rfl, hs⟩
  obtain ⟨y2, r2, rfl, c2, h2⟩ := h1.cons
  obtain ⟨a2, rfl, b2⟩ := conf_row eW bWr c2 fun r hr => by
    obtain ⟨a, l', rfl, h1, h2⟩ := confL_Wr (ts := []) (by simpa using hr)
    obtain rfl := h2.nil
    exact ⟨a, by simp, h1⟩
  exact ⟨⟨a1, a2⟩, r2, by simp, ⟨b1, b2⟩, h2⟩
theorem conf_Dsk {x : X} (h : ConfA (.agg tDsk) x) : ∃ a, x = .agg (eDsk .sl a) ∧ bDsk a := by
  obtain ⟨l, rfl, hl⟩ := confA_agg h
  obtain ⟨a, l', rfl, h1, h2⟩ := confL_Dsk (ts := []) (l := l) (by rw [List.append_nil]; exact hl)
  obtain rfl := h2.nil
  exact ⟨a, by simp, h1⟩
def tBn : List Ty := [.int .i64, .str, .str, .int .i64]
theorem confL_Bn {ts : List Ty} {l : List X} (h : ConfL ([.int .i64, .str, .str, .int .i64] ++ ts) l) : ∃ (a : Bn) (l' : List X), l = eBn a ++ l' ∧ bBn a ∧ ConfL ts l' := by
  simp only [List.cons_append, List.nil_append] at h
  obtain ⟨y1, r1, rfl, c1, h1⟩ := h.cons
  obtain ⟨a1, rfl, b1⟩ := conf_int c1
  obtain ⟨y2, r2, rfl, c2, h2⟩ := h1.cons
  obtain ⟨a2, rfl, b2⟩ := conf_str c2
  obtain ⟨y3, r3, rfl, c3, h3⟩ := h2.cons
  obtain ⟨a3, rfl, b3⟩ := conf_str c3
  obtain ⟨y4, r4, rfl, c4, h4⟩ := h3.cons
  obtain ⟨a4, rfl, b4⟩ := conf_int c4
  exact ⟨⟨a1, a2, a3, a4⟩, r4, by simp, ⟨b1, b2, b3, b4⟩, h4⟩
theorem conf_Bn {x : X} (h : ConfA (.agg tBn) x) : ∃ a, x = .agg (eBn a) ∧ bBn a := by
  obtain ⟨l, rfl, hl⟩ := confA_agg h
  obtain ⟨a, l', rfl, h1, h2⟩ := confL_Bn (ts := []) (l := l) (by rw [List.append_nil]; exact hl)
  obtain rfl := h2.nil
  exact ⟨a, by simp, h1⟩
def tSh : List Ty := [.row [.str], .row [.int .i64, .str], .row [.str, .row [.str], .row [.str], .int .i64, .row [.str, .str], .str, .int .i64, .int .i64, .int .i64], .row [.int .i64, .str, .str, .int .i64], .int .i64, .int .i64]
theorem confL_Sh {ts : List Ty} {l : List X} (h : ConfL ([.row [.str], .row [.int .i64, .str], .row [.str, .row [.str], .row [.str], .int .i64, .row [.str, .str], .str, .int .i64, .int .i64, .int .i64], .row [.int .i64, .str, .str, .int .i64], .int .i64, .int .i64] ++ ts) l) : ∃ (a : Sh) (l' : List X), l = eSh .sl a ++ l' ∧ bSh a ∧ ConfL ts l' := by
  simp only [List.cons_append, List.nil_append] at h
  obtain ⟨a1, r1, rfl, b1, h1⟩ := confL_Dsk (ts := _) h
  obtain ⟨y2, r2, rfl, c2, h2⟩ := h1.cons
  obtain ⟨a2, rfl, b2⟩ := conf_row (eKp .sl) bKp c2 fun r hr => by
    obtain ⟨a, l', rfl, h1, h2⟩ := confL_Kp (ts := []) (by simpa using hr)
    obtain rfl := h2.nil
    exact ⟨a, by simp, h1⟩
  obtain ⟨y3, r3, rfl, c3, h3⟩ := h2.cons
  obtain ⟨a3, rfl, b3⟩ := conf_row eBn bBn c3 fun r hr => by
    obtain ⟨a, l', rfl, h1, h2⟩ := confL_Bn (ts := []) (by simpa using hr)
    obtain rfl := h2.nil
    exact ⟨a, by simp, h1⟩
  obtain ⟨y4, r4, rfl, c4, h4⟩ := h3.cons
  obtain ⟨a4, rfl, b4⟩ := conf_int c4
  obtain ⟨y5, r5, rfl, c5, h5⟩ := h4.cons
  obtain ⟨a5, rfl, b5⟩ := conf_int c5
  exact ⟨⟨a1, a2, a3, a4, a5⟩, r5, by simp, ⟨b1, b2, b3, b4, b5⟩, h5⟩
theorem conf_Sh {x : X} (h : ConfA (.agg tSh) x) : ∃ a, x = .agg (eSh .sl a) ∧ bSh a := by
  obtain ⟨l, rfl, hl⟩ := confA_agg h
  obtain ⟨a, l', rfl, h1, h2⟩ := confL_Sh (ts := []) (l := l) (by rw [List.append_nil]; exact hl)
  obtain rfl := h2.nil
  exact ⟨a, by simp, h1⟩
def tFl : List Ty := [.int .i64, .str, .row [.str, .str], .str, .row [.int .i64], .str, .row [.str], .row [.str], .int .i64, .row [.str, .str], .str, .int .i64, .bool]
theorem confL_Fl {ts : List Ty} {l : List X} (h : ConfL ([.int .i64, .str, .row [.str, .str], .str, .row [.int .i64], .str, .row [.str], .row [.str], .int .i64, .row [.str, .str], .str, .int .i64, .bool] ++ ts) l) : ∃ (a : Fl) (l' : List X), l = eFl .sl a ++ l' ∧ bFl a ∧ ConfL ts l' := by
  simp only [List.cons_append, List.nil_append] at h
  obtain ⟨a1, r1, rfl, b1, h1⟩ := confL_Rq (ts := _) h
  obtain ⟨y2, r2, rfl, c2, h2⟩ := h1.cons
  obtain ⟨a2, rfl, b2⟩ := conf_row eI bI c2 fun r hr => by
    obtain ⟨x, r', rfl, h1, h2⟩ := hr.cons
    obtain rfl := h2.nil
    obtain ⟨s, rfl, hs⟩ := conf_int h1
    exact ⟨s, rfl, hs⟩
  obtain ⟨a3, r3, rfl, b3, h3⟩ := confL_Ob (ts := _) h2
  obtain ⟨y4, r4, rfl, c4, h4⟩ := h3.cons
  obtain ⟨a4, rfl⟩ := conf_bool c4
  exact ⟨⟨a1, a2, a3, a4⟩, r4, by simp, ⟨b1, b2, b3, trivial⟩, h4⟩
theorem conf_Fl {x : X} (h : ConfA (.agg tFl) x) : ∃ a, x = .agg (eFl .sl a) ∧ bFl a := by
  obtain ⟨l, rfl, hl⟩ := confA_agg h
  obtain ⟨a, l', rfl, h1, h2⟩ := confL_Fl (ts := []) (l := l) (by rw [List.append_nil]; exact hl)
  obtain rfl := h2.nil
  exact ⟨a, by simp, h1⟩
def tSe : List Ty := [.int .i64, .str, .row [.str, .str], .str, .int .i64, .row [.str, .str], .str, .int .i64]
theorem confL_Se {ts : List Ty} {l : List X} (h : ConfL ([.int .i64, .str, .row [.str, .str], .str, .int .i64, .row [.str, .str], .str, .int .i64] ++ ts) l) : ∃ (a : Se) (l' : List X), l = eSe .sl a ++ l' ∧ bSe a ∧ ConfL ts l' := by
  simp only [List.cons_append, List.nil_append] at h
  obtain ⟨a1, r1, rfl, b1, h1⟩ := confL_Rq (ts := _) h
  obtain ⟨a2, r2, rfl, b2, h2⟩ := confL_Rsp (ts := _) h1
  obtain ⟨y3, r3, rfl, c3, h3⟩ := h2.cons
  obtain ⟨a3, rfl, b3⟩ := conf_int c3
  exact ⟨⟨a1, a2, a3⟩, r3, by simp, ⟨b1, b2, b3⟩, h3⟩
theorem conf_Se {x : X} (h : ConfA (.agg tSe) x) : ∃ a, x = .agg (eSe .sl a) ∧ bSe a := by
  obtain ⟨l, rfl, hl⟩ := confA_agg h
  obtain ⟨a, l', rfl, h1, h2⟩ := confL_Se (ts := []) (l := l) (by rw [List.append_nil]; exact hl)
  obtain rfl := h2.nil
  exact ⟨a, by simp, h1⟩
def tRp : List Ty := [.int .i64, .int .i64, .str, .row [.str, .str], .str, .int .i64, .row [.str, .str], .str, .int .i64, .int .i64, .str, .row [.str], .row [.str], .int .i64, .row [.str, .str], .str, .int .i64, .int .i64]
theorem confL_Rp {ts : List Ty} {l : List X} (h : ConfL ([.int .i64, .int .i64, .str, .row [.str, .str], .str, .int .i64, .row [.str, .str], .str, .int .i64, .int .i64, .str, .row [.str], .row [.str], .int .i64, .row [.str, .str], .str, .int .i64, .int .i64] ++ ts) l) : ∃ (a : Rp) (l' : List X), l = eRp .sl a ++ l' ∧ bRp a ∧ ConfL ts l' := by
  simp only [List.cons_append, List.nil_append] at h
  obtain ⟨y1, r1, rfl, c1, h1⟩ := h.cons
  obtain ⟨a1, rfl, b1⟩ := conf_int c1
  obtain ⟨a2, r2, rfl, b2, h2⟩ := confL_Rq (ts := _) h1
  obtain ⟨a3, r3, rfl, b3, h3⟩ := confL_Rsp (ts := _) h2
  obtain ⟨y4, r4, rfl, c4, h4⟩ := h3.cons
  obtain ⟨a4, rfl, b4⟩ := conf_int c4
  obtain ⟨y5, r5, rfl, c5, h5⟩ := h4.cons
  obtain ⟨a5, rfl, b5⟩ := conf_int c5
  obtain ⟨a6, r6, rfl, b6, h6⟩ := confL_Ob (ts := _) h5
  obtain ⟨y7, r7, rfl, c7, h7⟩ := h6.cons
  obtain ⟨a7, rfl, b7⟩ := conf_int c7
  exact ⟨⟨a1, a2, a3, a4, a5, a6, a7⟩, r7, by simp, ⟨b1, b2, b3, b4, b5, b6, b7⟩, h7⟩
theorem conf_Rp {x : X} (h : ConfA (.agg tRp) x) : ∃ a, x = .agg (eRp .sl a) ∧ bRp a := by
  obtain ⟨l, rfl, hl⟩ := confA_agg h
  obtain ⟨a, l', rfl, h1, h2⟩ := confL_Rp (ts := []) (l := l) (by rw [List.append_nil]; exact hl)
  obtain rfl := h2.nil
  exact ⟨a, by simp, h1⟩
def tCa : List Ty := [.row [.str], .row [.int .i64, .str], .row [.str, .row [.str], .row [.str], .int .i64, .row [.str, .str], .str, .int .i64, .int .i64, .int .i64], .row [.int .i64, .str, .str, .int .i64], .int .i64, .int .i64, .row [.int .i64, .str, .row [.str, .str], .str, .row [.int .i64], .str, .row [.str], .row [.str], .int .i64, .row [.str, .str], .str, .int .i64, .bool], .int .i64, .row [.int .i64, .str, .row [.str, .str], .str, .int .i64, .row [.str, .str], .str, .int .i64], .row [.int .i64, .int .i64, .str, .row [.str, .str], .str, .int .i64, .row [.str, .str], .str, .int .i64, .int .i64, .str, .row [.str], .row [.str], .int .i64, .row [.str, .str], .str, .int .i64, .int .i64]]
theorem confL_Ca {ts : List Ty} {l : List X} (h : ConfL ([.row [.str], .row [.int .i64, .str], .row [.str, .row [.str], .row [.str], .int .i64, .row [.str, .str], .str, .int .i64, .int .i64, .int .i64], .row [.int .i64, .str, .str, .int .i64], .int .i64, .int .i64, .row [.int .i64, .str, .row [.str, .str], .str, .row [.int .i64], .str, .row [.str], .row [.str], .int .i64, .row [.str, .str], .str, .int .i64, .bool], .int .i64, .row [.int .i64, .str, .row [.str, .str], .str, .int .i64, .row [.str, .str], .str, .int .i64], .row [.int .i64, .int .i64, .str, .row [.str, .str], .str, .int .i64, .row [.str, .str], .str, .int .i64, .int .i64, .str, .row [.str], .row [.str], .int .i64, .row [.str, .str], .str, .int .i64, .int .i64]] ++ ts) l) : ∃ (a : Ca) (l' : List X), l = eCa .sl a ++ l' ∧ bCa a ∧ ConfL ts l' := by
  simp only [List.cons_append, List.nil_append] at h
  obtain ⟨a1, r1, rfl, b1, h1⟩ := confL_Sh (ts := _) h
  obtain ⟨y2, r2, rfl, c2, h2⟩ := h1.cons
  obtain ⟨a2, rfl, b2⟩ := conf_row (eFl .sl) bFl c2 fun r hr => by
    obtain ⟨a, l', rfl, h1, h2⟩ := confL_Fl (ts := []) (by simpa using hr)
    obtain rfl := h2.nil
    exact ⟨a, by simp, h1⟩
  obtain ⟨y3, r3, rfl, c3, h3⟩ := h2.cons
  obtain ⟨a3, rfl, b3⟩ := conf_int c3
  obtain ⟨y4, r4, rfl, c4, h4⟩ := h3.cons
  obtain ⟨a4, rfl, b4⟩ := conf_row (eSe .sl) bSe c4 fun r hr => by
    obtain ⟨a, l', rfl, h1, h2⟩ := confL_Se (ts := []) (by simpa using hr)
    obtain rfl := h2.nil
    exact ⟨a, by simp, h1⟩
  obtain ⟨y5, r5, rfl, c5, h5⟩ := h4.cons
  obtain ⟨a5, rfl, b5⟩ := conf_row (eRp .sl) bRp c5 fun r hr => by
    obtain ⟨a, l', rfl, h1, h2⟩ := confL_Rp (ts := []) (by simpa using hr)
    obtain rfl := h2.nil
    exact ⟨a, by simp, h1⟩
  exact ⟨⟨a1, a2, a3, a4, a5⟩, r5, by simp, ⟨b1, b2, b3, b4, b5⟩, h5⟩
theorem conf_Ca {x : X} (h : ConfA (.agg tCa) x) : ∃ a, x = .agg (eCa .sl a) ∧ bCa a := by
  obtain ⟨l, rfl, hl⟩ := confA_agg h
  obtain ⟨a, l', rfl, h1, h2⟩ := confL_Ca (ts := []) (l := l) (by rw [List.append_nil]; exact hl)
  obtain rfl := h2.nil
  exact ⟨a, by simp, h1⟩
end M
